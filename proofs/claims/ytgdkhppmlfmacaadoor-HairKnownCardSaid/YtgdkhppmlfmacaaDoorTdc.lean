/- Told functions, and that the program does so, part 3. Conditions: none. -/
import Derived.Test.YtgdkhppmlfmacaaDoorTdb
set_option linter.unusedVariables false
set_option linter.unusedSimpArgs false
namespace Go.Proofs.Tl
open Go Go.Abs Go.Proofs
def g4_104:Int→(Nat→Int)→Unit→Option (Ctl (Unit) (Bool)):=fun v p8 _=>(g26a).bind fun r0_11_13=>(g27 r0_11_13 (p8 0) (p8 1) (p8 2)).bind fun (r0_4_4,r1_5_4,r2_4_4)=>(bif (decide (r2_4_4≠0)) then (some true) else (some (decide (r0_4_4≠(p8 3))))).bind fun v1=>(bif v1 then (some true) else (some (decide (r1_5_4≠(p8 4))))).bind fun v2=>bif v2 then (some (.brk false)) else (some (.next ()))
def g4_41:Int→HairBook→Unit→Option (Ctl (Unit) (Bool)):=fun A p7 _=>(g27 p7 (-1) 0 0).bind fun (r0_4,r1_5,r2_4)=>(g28 p7 ([]:(List Int))).bind fun (r0_2_1,r1_4)=>(g29 p7 ([]:(List Int)) 0).bind fun (r0_2_2,r1_4_1)=>(g30 p7 ([]:(List Int))).bind fun (r0_2_3,r1_4_2)=>(g31 p7).bind fun (r0_3_1,r1_3)=>(g32 p7).bind fun (r0_2_4,r1_1)=>(g33 p7 (-1)).bind fun (r0_5,r1_6)=>(g34 p7).bind fun (r0_1_1,r1_1_1)=>(g35 p7).bind fun r0_9=>bif (((((((((decide (r0_9≠60))||(decide (r2_4≠60)))||(decide (r1_4≠60)))||(decide (r1_4_1≠60)))||(decide (r1_4_2≠60)))||(decide (r1_3≠60)))||(decide (r1_1≠60)))||(decide (r1_6≠60)))||(decide (r1_1_1≠60))) then (some (.brk false)) else (some (.next ()))
def g4 :Option Bool:=(g26).bind fun (r0_Hanks,r0_Horses,r0_Dark,r0_Near,r0_Match)=>(g26).bind fun (r0_Hanks1,r0_Horses1,r0_Dark1,r0_Near1,r0_Match1)=>(g26).bind fun (r0_Hanks2,r0_Horses2,r0_Dark2,r0_Near2,r0_Match2)=>(g26).bind fun (r0_Hanks3,r0_Horses3,r0_Dark3,r0_Near3,r0_Match3)=>(g26).bind fun (r0_Hanks4,r0_Horses4,r0_Dark4,r0_Near4,r0_Match4)=>(g26).bind fun (r0_Hanks5,r0_Horses5,r0_Dark5,r0_Near5,r0_Match5)=>(g26).bind fun (r0_Hanks6,r0_Horses6,r0_Dark6,r0_Near6,r0_Match6)=>(g26).bind fun (r0_Hanks7,r0_Horses7,r0_Dark7,r0_Near7,r0_Match7)=>(g26).bind fun (r0_Hanks8,r0_Horses8,r0_Dark8,r0_Near8,r0_Match8)=>(g26a).bind fun r0_11=>(g26a).bind fun r0_11_1=>(g26a).bind fun r0_11_2=>(appL 32 r0_Hanks r0_11_2.Hanks).bind fun l=>(g26a).bind fun r0_11_3=>(appL 24 r0_Horses1 r0_11_3.Horses).bind fun l1=>(g10 10 15).bind fun r0=>(ixL r0_Hanks2 0).bind fun p=>(g24 61).bind fun r0_1=>(ixL r0_Hanks3 0).bind fun p1=>(g10 4 7).bind fun r0_2=>(ixL r0_Hanks4 0).bind fun p2=>(g24 21).bind fun r0_3=>(ixL r0_Hanks5 0).bind fun p3=>(ixL r0_Horses6 0).bind fun p4=>(ixL r0_Horses7 1).bind fun p5=>(ixL r0_Horses8 1).bind fun p6=>(some ([(HairBook.mk l r0_Horses r0_Dark r0_Near r0_Match),(HairBook.mk r0_Hanks1 l1 r0_Dark1 r0_Near1 r0_Match1),(HairBook.mk (setL r0_Hanks2 0 (HairHank.mk r0 p.Shade)) r0_Horses2 r0_Dark2 r0_Near2 r0_Match2),(HairBook.mk (setL r0_Hanks3 0 (HairHank.mk r0_1 p1.Shade)) r0_Horses3 r0_Dark3 r0_Near3 r0_Match3),(HairBook.mk (setL r0_Hanks4 0 (HairHank.mk p2.Weight r0_2)) r0_Horses4 r0_Dark4 r0_Near4 r0_Match4),(HairBook.mk (setL r0_Hanks5 0 (HairHank.mk p3.Weight r0_3)) r0_Horses5 r0_Dark5 r0_Near5 r0_Match5),(HairBook.mk r0_Hanks6 (setL r0_Horses6 0 (HairHorse.mk 0 p4.Tail p4.Shade)) r0_Dark6 r0_Near6 r0_Match6),(HairBook.mk r0_Hanks7 (setL r0_Horses7 1 (HairHorse.mk p5.Mane 31 p5.Shade)) r0_Dark7 r0_Near7 r0_Match7),(HairBook.mk r0_Hanks8 (setL r0_Horses8 1 (HairHorse.mk p6.Mane p6.Tail 26)) r0_Dark8 r0_Near8 r0_Match8),(HairBook.mk r0_11.Hanks r0_11.Horses 5 r0_11.Near r0_11.Match),(HairBook.mk r0_11_1.Hanks r0_11_1.Horses r0_11_1.Dark r0_11_1.Near 4)]:List HairBook)).bind fun o=>bindC (eachC g4_41 o 0 ()) fun _=>(g26a).bind fun r0_11_4=>(g27 r0_11_4 2 0 0).bind fun (r0_4_1,r1_5_1,r2_4_1)=>(g26a).bind fun r0_11_5=>(g27 r0_11_5 0 3 0).bind fun (r0_4_2,r1_5_2,r2_4_2)=>(g26a).bind fun r0_11_6=>(g28 r0_11_6 [0,0,1]).bind fun (r0_2_5,r1_4_3)=>(g26a).bind fun r0_11_7=>(g28 r0_11_7 [0,0,1,3]).bind fun (r0_2_6,r1_4_4)=>(g26a).bind fun r0_11_8=>(g29 r0_11_8 [0,1,1,1] 0).bind fun (r0_2_7,r1_4_5)=>(g26a).bind fun r0_11_9=>(g29 r0_11_9 [0,0,1,1] 3).bind fun (r0_2_8,r1_4_6)=>(g26a).bind fun r0_11_10=>(g30 r0_11_10 [2,2,2,2]).bind fun (r0_2_9,r1_4_7)=>(g26a).bind fun r0_11_11=>(g33 r0_11_11 21).bind fun (r0_5_1,r1_6_1)=>(g26a).bind fun r0_11_12=>(g27 r0_11_12 1 2 2).bind fun (r0_4_3,r1_5_3,r2_4_3)=>(g36).bind fun r0_6=>(g31 r0_6).bind fun (r0_3_2,r1_3_1)=>(g36).bind fun r0_7=>(g33 r0_7 0).bind fun (r0_5_2,r1_6_2)=>bif (((((((((((decide (r2_4_1≠61))||(decide (r2_4_2≠61)))||(decide (r1_4_3≠61)))||(decide (r1_4_4≠61)))||(decide (r1_4_5≠61)))||(decide (r1_4_6≠61)))||(decide (r1_4_7≠61)))||(decide (r1_6_1≠61)))||(decide (r2_4_3≠4)))||(decide (r1_3_1≠4)))||(decide (r1_6_2≠4))) then (some false) else (bindC (eachC g4_104 ([(arrL [0,0,0,1,1]),(arrL [0,0,1,1,0]),(arrL [1,0,1,2,0])]) 0 ()) fun _=>(g26a).bind fun r0_11_14=>(g28 r0_11_14 [0,0,1,1]).bind fun (r0_2_10,r1_4_8)=>(g26a).bind fun r0_11_15=>(g28 r0_11_15 [0,1,1,1]).bind fun (r0_2_11,r1_4_9)=>(g26a).bind fun r0_11_16=>(g30 r0_11_16 [0,0,1,1]).bind fun (r0_2_12,r1_4_10)=>(g26a).bind fun r0_11_17=>(g31 r0_11_17).bind fun (r0_3_3,r1_3_2)=>(g26a).bind fun r0_11_18=>(g32 r0_11_18).bind fun (r0_2_13,r1_1_2)=>(g26a).bind fun r0_11_19=>(g33 r0_11_19 9).bind fun (r0_5_3,r1_6_3)=>(g26a).bind fun r0_11_20=>(g34 r0_11_20).bind fun (r0_1_2,r1_1_3)=>(g31 (HairBook.mk [] [] 0 0 0)).bind fun (r0_3_4,r1_3_3)=>(g30 (HairBook.mk [] [] 0 0 0) ([]:(List Int))).bind fun (r0_2_14,r1_4_11)=>(g34 (HairBook.mk [] [] 0 0 0)).bind fun (r0_1_3,r1_1_4)=>(bif (decide (r1_4_8=0)) then (bif r0_2_10 then (bif (decide (r1_4_9=0)) then (bif (!r0_2_11) then (bif (decide (r1_4_10=0)) then ((g10 0 2).bind fun r0_8=>bif (false != ((r0_2_12.Low==r0_8.Low)&&((r0_2_12.High==r0_8.High)&&true))) then (bif (decide (r1_3_2=0)) then ((g37 r0_3_3 [0,0,1,1]).bind fun r0_10=>bif r0_10 then (bif (decide (r1_1_2=0)) then (bif (decide ((r0_2_13.length:Int)=0)) then (bif (decide (r1_6_3=0)) then (bif (decide (r0_5_3=0)) then (bif (decide (r1_1_3=0)) then (bif r0_1_2 then (bif (decide (r1_3_3=0)) then (bif (decide ((r0_3_4.length:Int)=0)) then (bif (decide (r1_4_11=0)) then ((g24 0).bind fun r0_12=>bif (false != ((r0_2_14.Low==r0_12.Low)&&((r0_2_14.High==r0_12.High)&&true))) then (bif (decide (r1_1_4=0)) then (bif r0_1_3 then ((g38).bind fun r0_13=>some r0_13) else (some false)) else (some false)) else (some false)) else (some false)) else (some false)) else (some false)) else (some false)) else (some false)) else (some false)) else (some false)) else (some false)) else (some false)) else (some false)) else (some false)) else (some false)) else (some false)) else (some false)) else (some false)) else (some false)) else (some false)).bind fun t=>some t)
set_option maxHeartbeats 4000000 in
theorem k4  (r:Bool) (h:g4=some r):SCall Tryd.prog Gs 4 [] [] 0 Fr.emp (.d (.bool r)) [] 0 Fr.emp:=by
 unfold g4 at h
 refine SCall.mkK Tryd.func4 c4 rfl rfl (by kernel_rfl) (fun Q_0 hR_0 hN_0=>?_)
 refine Sa (sT [] [] 0 0) ?_
 refine AW.srwK (fun Q_1 hQ_1=>?_)
 obtain ⟨⟨r0_Hanks,r0_Horses,r0_Dark,r0_Near,r0_Match⟩,hx_2,h⟩:=bsome h
 refine RW.one fokW (r_callS (zr:=[]) [] trivial rfl (k26 _ hx_2) trivial rfl rfl trivial rfl rfl rfl (r_end ?_))
 obtain ⟨⟨r0_Hanks1,r0_Horses1,r0_Dark1,r0_Near1,r0_Match1⟩,hx_3,h⟩:=bsome h
 refine RW.one fokW (r_callS (zr:=[]) [] trivial rfl (k26 _ hx_3) trivial rfl rfl trivial rfl rfl rfl (r_end ?_))
 obtain ⟨⟨r0_Hanks2,r0_Horses2,r0_Dark2,r0_Near2,r0_Match2⟩,hx_4,h⟩:=bsome h
 refine RW.one fokW (r_callS (zr:=[]) [] trivial rfl (k26 _ hx_4) trivial rfl rfl trivial rfl rfl rfl (r_end ?_))
 obtain ⟨⟨r0_Hanks3,r0_Horses3,r0_Dark3,r0_Near3,r0_Match3⟩,hx_5,h⟩:=bsome h
 refine RW.one fokW (r_callS (zr:=[]) [] trivial rfl (k26 _ hx_5) trivial rfl rfl trivial rfl rfl rfl (r_end ?_))
 obtain ⟨⟨r0_Hanks4,r0_Horses4,r0_Dark4,r0_Near4,r0_Match4⟩,hx_6,h⟩:=bsome h
 refine RW.one fokW (r_callS (zr:=[]) [] trivial rfl (k26 _ hx_6) trivial rfl rfl trivial rfl rfl rfl (r_end ?_))
 obtain ⟨⟨r0_Hanks5,r0_Horses5,r0_Dark5,r0_Near5,r0_Match5⟩,hx_7,h⟩:=bsome h
 refine RW.one fokW (r_callS (zr:=[]) [] trivial rfl (k26 _ hx_7) trivial rfl rfl trivial rfl rfl rfl (r_end ?_))
 obtain ⟨⟨r0_Hanks6,r0_Horses6,r0_Dark6,r0_Near6,r0_Match6⟩,hx_8,h⟩:=bsome h
 refine RW.one fokW (r_callS (zr:=[]) [] trivial rfl (k26 _ hx_8) trivial rfl rfl trivial rfl rfl rfl (r_end ?_))
 obtain ⟨⟨r0_Hanks7,r0_Horses7,r0_Dark7,r0_Near7,r0_Match7⟩,hx_9,h⟩:=bsome h
 refine RW.one fokW (r_callS (zr:=[]) [] trivial rfl (k26 _ hx_9) trivial rfl rfl trivial rfl rfl rfl (r_end ?_))
 obtain ⟨⟨r0_Hanks8,r0_Horses8,r0_Dark8,r0_Near8,r0_Match8⟩,hx_10,h⟩:=bsome h
 refine RW.one fokW (r_callS (zr:=[]) [] trivial rfl (k26 _ hx_10) trivial rfl rfl trivial rfl rfl rfl (r_end ?_))
 obtain ⟨r0_11,hx_11,h⟩:=bsome h
 refine rC (k26a _ hx_11) ?_
 obtain ⟨r0_11_1,hx_12,h⟩:=bsome h
 refine rC (k26a _ hx_12) ?_
 refine RW.one fokW (r_bslA (vs:=[.agg [.own 1 (List.map e65 r0_Hanks).length,.own 2 (List.map e67 r0_Horses).length,jI r0_Dark,jI r0_Near,jI r0_Match],.agg [.own 4 (List.map e65 r0_Hanks1).length,.own 5 (List.map e67 r0_Horses1).length,jI r0_Dark1,jI r0_Near1,jI r0_Match1],.agg [.own 7 (List.map e65 r0_Hanks2).length,.own 8 (List.map e67 r0_Horses2).length,jI r0_Dark2,jI r0_Near2,jI r0_Match2],.agg [.own 10 (List.map e65 r0_Hanks3).length,.own 11 (List.map e67 r0_Horses3).length,jI r0_Dark3,jI r0_Near3,jI r0_Match3],.agg [.own 13 (List.map e65 r0_Hanks4).length,.own 14 (List.map e67 r0_Horses4).length,jI r0_Dark4,jI r0_Near4,jI r0_Match4],.agg [.own 16 (List.map e65 r0_Hanks5).length,.own 17 (List.map e67 r0_Horses5).length,jI r0_Dark5,jI r0_Near5,jI r0_Match5],.agg [.own 19 (List.map e65 r0_Hanks6).length,.own 20 (List.map e67 r0_Horses6).length,jI r0_Dark6,jI r0_Near6,jI r0_Match6],.agg [.own 22 (List.map e65 r0_Hanks7).length,.own 23 (List.map e67 r0_Horses7).length,jI r0_Dark7,jI r0_Near7,jI r0_Match7],.agg [.own 25 (List.map e65 r0_Hanks8).length,.own 26 (List.map e67 r0_Horses8).length,jI r0_Dark8,jI r0_Near8,jI r0_Match8],.agg [.d (.sl 4 (List.map e65 r0_11.Hanks)),.d (.sl 3 (List.map e67 r0_11.Horses)),jI r0_11.Dark,jI r0_11.Near,jI r0_11.Match],.agg [.d (.sl 4 (List.map e65 r0_11_1.Hanks)),.d (.sl 3 (List.map e67 r0_11_1.Horses)),jI r0_11_1.Dark,jI r0_11_1.Near,jI r0_11_1.Match]]) (out:=[.own 1 (List.map e65 r0_Hanks).length,.own 2 (List.map e67 r0_Horses).length,jI r0_Dark,jI r0_Near,jI r0_Match,.own 4 (List.map e65 r0_Hanks1).length,.own 5 (List.map e67 r0_Horses1).length,jI r0_Dark1,jI r0_Near1,jI r0_Match1,.own 7 (List.map e65 r0_Hanks2).length,.own 8 (List.map e67 r0_Horses2).length,jI r0_Dark2,jI r0_Near2,jI r0_Match2,.own 10 (List.map e65 r0_Hanks3).length,.own 11 (List.map e67 r0_Horses3).length,jI r0_Dark3,jI r0_Near3,jI r0_Match3,.own 13 (List.map e65 r0_Hanks4).length,.own 14 (List.map e67 r0_Horses4).length,jI r0_Dark4,jI r0_Near4,jI r0_Match4,.own 16 (List.map e65 r0_Hanks5).length,.own 17 (List.map e67 r0_Horses5).length,jI r0_Dark5,jI r0_Near5,jI r0_Match5,.own 19 (List.map e65 r0_Hanks6).length,.own 20 (List.map e67 r0_Horses6).length,jI r0_Dark6,jI r0_Near6,jI r0_Match6,.own 22 (List.map e65 r0_Hanks7).length,.own 23 (List.map e67 r0_Horses7).length,jI r0_Dark7,jI r0_Near7,jI r0_Match7,.own 25 (List.map e65 r0_Hanks8).length,.own 26 (List.map e67 r0_Horses8).length,jI r0_Dark8,jI r0_Near8,jI r0_Match8,.d (.sl 4 (List.map e65 r0_11.Hanks)),.d (.sl 3 (List.map e67 r0_11.Horses)),jI r0_11.Dark,jI r0_11.Near,jI r0_11.Match,.d (.sl 4 (List.map e65 r0_11_1.Hanks)),.d (.sl 3 (List.map e67 r0_11_1.Horses)),jI r0_11_1.Dark,jI r0_11_1.Near,jI r0_11_1.Match]) trivial (by kernel_rfl) (by kernel_rfl) rfl rfl rfl (r_end ?_))
 refine Au 1 (sT [(1,.asl 27 11)] [(27,.arr 61 [.own 1 (List.map e65 r0_Hanks).length,.own 2 (List.map e67 r0_Horses).length,jI r0_Dark,jI r0_Near,jI r0_Match,.own 4 (List.map e65 r0_Hanks1).length,.own 5 (List.map e67 r0_Horses1).length,jI r0_Dark1,jI r0_Near1,jI r0_Match1,.own 7 (List.map e65 r0_Hanks2).length,.own 8 (List.map e67 r0_Horses2).length,jI r0_Dark2,jI r0_Near2,jI r0_Match2,.own 10 (List.map e65 r0_Hanks3).length,.own 11 (List.map e67 r0_Horses3).length,jI r0_Dark3,jI r0_Near3,jI r0_Match3,.own 13 (List.map e65 r0_Hanks4).length,.own 14 (List.map e67 r0_Horses4).length,jI r0_Dark4,jI r0_Near4,jI r0_Match4,.own 16 (List.map e65 r0_Hanks5).length,.own 17 (List.map e67 r0_Horses5).length,jI r0_Dark5,jI r0_Near5,jI r0_Match5,.own 19 (List.map e65 r0_Hanks6).length,.own 20 (List.map e67 r0_Horses6).length,jI r0_Dark6,jI r0_Near6,jI r0_Match6,.own 22 (List.map e65 r0_Hanks7).length,.own 23 (List.map e67 r0_Horses7).length,jI r0_Dark7,jI r0_Near7,jI r0_Match7,.own 25 (List.map e65 r0_Hanks8).length,.own 26 (List.map e67 r0_Horses8).length,jI r0_Dark8,jI r0_Near8,jI r0_Match8,.d (.sl 4 (List.map e65 r0_11.Hanks)),.d (.sl 3 (List.map e67 r0_11.Horses)),jI r0_11.Dark,jI r0_11.Near,jI r0_11.Match,.d (.sl 4 (List.map e65 r0_11_1.Hanks)),.d (.sl 3 (List.map e67 r0_11_1.Horses)),jI r0_11_1.Dark,jI r0_11_1.Near,jI r0_11_1.Match]),(25,.row 65 4 (List.map e65 r0_Hanks8)),(26,.row 67 3 (List.map e67 r0_Horses8)),(22,.row 65 4 (List.map e65 r0_Hanks7)),(23,.row 67 3 (List.map e67 r0_Horses7)),(19,.row 65 4 (List.map e65 r0_Hanks6)),(20,.row 67 3 (List.map e67 r0_Horses6)),(16,.row 65 4 (List.map e65 r0_Hanks5)),(17,.row 67 3 (List.map e67 r0_Horses5)),(13,.row 65 4 (List.map e65 r0_Hanks4)),(14,.row 67 3 (List.map e67 r0_Horses4)),(10,.row 65 4 (List.map e65 r0_Hanks3)),(11,.row 67 3 (List.map e67 r0_Horses3)),(7,.row 65 4 (List.map e65 r0_Hanks2)),(8,.row 67 3 (List.map e67 r0_Horses2)),(4,.row 65 4 (List.map e65 r0_Hanks1)),(5,.row 67 3 (List.map e67 r0_Horses1)),(1,.row 65 4 (List.map e65 r0_Hanks)),(2,.row 67 3 (List.map e67 r0_Horses))] 28 0) ?_
 refine RW.nil (hQ_1 _ ?_)
 refine AW.sdrwK fokW (fun Q_13 hQ_13=>?_)
 refine aX 2 (sT [(1,.asl 27 11),(72,.asl 27 11),(73,.asl 27 11)] [(27,.arr 61 [.own 1 (List.map e65 r0_Hanks).length,.own 2 (List.map e67 r0_Horses).length,jI r0_Dark,jI r0_Near,jI r0_Match,.own 4 (List.map e65 r0_Hanks1).length,.own 5 (List.map e67 r0_Horses1).length,jI r0_Dark1,jI r0_Near1,jI r0_Match1,.own 7 (List.map e65 r0_Hanks2).length,.own 8 (List.map e67 r0_Horses2).length,jI r0_Dark2,jI r0_Near2,jI r0_Match2,.own 10 (List.map e65 r0_Hanks3).length,.own 11 (List.map e67 r0_Horses3).length,jI r0_Dark3,jI r0_Near3,jI r0_Match3,.own 13 (List.map e65 r0_Hanks4).length,.own 14 (List.map e67 r0_Horses4).length,jI r0_Dark4,jI r0_Near4,jI r0_Match4,.own 16 (List.map e65 r0_Hanks5).length,.own 17 (List.map e67 r0_Horses5).length,jI r0_Dark5,jI r0_Near5,jI r0_Match5,.own 19 (List.map e65 r0_Hanks6).length,.own 20 (List.map e67 r0_Horses6).length,jI r0_Dark6,jI r0_Near6,jI r0_Match6,.own 22 (List.map e65 r0_Hanks7).length,.own 23 (List.map e67 r0_Horses7).length,jI r0_Dark7,jI r0_Near7,jI r0_Match7,.own 25 (List.map e65 r0_Hanks8).length,.own 26 (List.map e67 r0_Horses8).length,jI r0_Dark8,jI r0_Near8,jI r0_Match8,.d (.sl 4 (List.map e65 r0_11.Hanks)),.d (.sl 3 (List.map e67 r0_11.Horses)),jI r0_11.Dark,jI r0_11.Near,jI r0_11.Match,.d (.sl 4 (List.map e65 r0_11_1.Hanks)),.d (.sl 3 (List.map e67 r0_11_1.Horses)),jI r0_11_1.Dark,jI r0_11_1.Near,jI r0_11_1.Match]),(25,.row 65 4 (List.map e65 r0_Hanks8)),(26,.row 67 3 (List.map e67 r0_Horses8)),(22,.row 65 4 (List.map e65 r0_Hanks7)),(23,.row 67 3 (List.map e67 r0_Horses7)),(19,.row 65 4 (List.map e65 r0_Hanks6)),(20,.row 67 3 (List.map e67 r0_Horses6)),(16,.row 65 4 (List.map e65 r0_Hanks5)),(17,.row 67 3 (List.map e67 r0_Horses5)),(13,.row 65 4 (List.map e65 r0_Hanks4)),(14,.row 67 3 (List.map e67 r0_Horses4)),(10,.row 65 4 (List.map e65 r0_Hanks3)),(11,.row 67 3 (List.map e67 r0_Horses3)),(7,.row 65 4 (List.map e65 r0_Hanks2)),(8,.row 67 3 (List.map e67 r0_Horses2)),(4,.row 65 4 (List.map e65 r0_Hanks1)),(5,.row 67 3 (List.map e67 r0_Horses1)),(1,.row 65 4 (List.map e65 r0_Hanks)),(2,.row 67 3 (List.map e67 r0_Horses))] 28 0) ?_
 refine r_iaAS trivial rfl rfl rfl (by decide) (by decide) ?_
 refine r_faddrA trivial rfl ?_
 refine r_loadAV trivial rfl rfl rfl ?_
 obtain ⟨r0_11_2,hx_14,h⟩:=bsome h
 refine r_call trivial rfl (k26a _ hx_14) rfl rfl ?_
 refine aX 1 (sT [(1,.asl 27 11),(72,.asl 27 11),(76,.own 1 (List.map e65 r0_Hanks).length),(78,.d (.sl 4 (List.map e65 r0_11_2.Hanks)))] [(27,.arr 61 [.own 1 (List.map e65 r0_Hanks).length,.own 2 (List.map e67 r0_Horses).length,jI r0_Dark,jI r0_Near,jI r0_Match,.own 4 (List.map e65 r0_Hanks1).length,.own 5 (List.map e67 r0_Horses1).length,jI r0_Dark1,jI r0_Near1,jI r0_Match1,.own 7 (List.map e65 r0_Hanks2).length,.own 8 (List.map e67 r0_Horses2).length,jI r0_Dark2,jI r0_Near2,jI r0_Match2,.own 10 (List.map e65 r0_Hanks3).length,.own 11 (List.map e67 r0_Horses3).length,jI r0_Dark3,jI r0_Near3,jI r0_Match3,.own 13 (List.map e65 r0_Hanks4).length,.own 14 (List.map e67 r0_Horses4).length,jI r0_Dark4,jI r0_Near4,jI r0_Match4,.own 16 (List.map e65 r0_Hanks5).length,.own 17 (List.map e67 r0_Horses5).length,jI r0_Dark5,jI r0_Near5,jI r0_Match5,.own 19 (List.map e65 r0_Hanks6).length,.own 20 (List.map e67 r0_Horses6).length,jI r0_Dark6,jI r0_Near6,jI r0_Match6,.own 22 (List.map e65 r0_Hanks7).length,.own 23 (List.map e67 r0_Horses7).length,jI r0_Dark7,jI r0_Near7,jI r0_Match7,.own 25 (List.map e65 r0_Hanks8).length,.own 26 (List.map e67 r0_Horses8).length,jI r0_Dark8,jI r0_Near8,jI r0_Match8,.d (.sl 4 (List.map e65 r0_11.Hanks)),.d (.sl 3 (List.map e67 r0_11.Horses)),jI r0_11.Dark,jI r0_11.Near,jI r0_11.Match,.d (.sl 4 (List.map e65 r0_11_1.Hanks)),.d (.sl 3 (List.map e67 r0_11_1.Horses)),jI r0_11_1.Dark,jI r0_11_1.Near,jI r0_11_1.Match]),(25,.row 65 4 (List.map e65 r0_Hanks8)),(26,.row 67 3 (List.map e67 r0_Horses8)),(22,.row 65 4 (List.map e65 r0_Hanks7)),(23,.row 67 3 (List.map e67 r0_Horses7)),(19,.row 65 4 (List.map e65 r0_Hanks6)),(20,.row 67 3 (List.map e67 r0_Horses6)),(16,.row 65 4 (List.map e65 r0_Hanks5)),(17,.row 67 3 (List.map e67 r0_Horses5)),(13,.row 65 4 (List.map e65 r0_Hanks4)),(14,.row 67 3 (List.map e67 r0_Horses4)),(10,.row 65 4 (List.map e65 r0_Hanks3)),(11,.row 67 3 (List.map e67 r0_Horses3)),(7,.row 65 4 (List.map e65 r0_Hanks2)),(8,.row 67 3 (List.map e67 r0_Horses2)),(4,.row 65 4 (List.map e65 r0_Hanks1)),(5,.row 67 3 (List.map e67 r0_Horses1)),(1,.row 65 4 (List.map e65 r0_Hanks)),(2,.row 67 3 (List.map e67 r0_Horses))] 28 0) ?_
 obtain ⟨l,hv_15,h⟩:=bsome h
 refine r_apD trivial rfl rfl rfl rfl (apz hv_15 e65) (apr hv_15 e65) ?_
 refine r_iaAS trivial rfl rfl rfl (by decide) (by decide) ?_
 refine r_faddrA trivial rfl ?_
 refine r_storeA trivial rfl rfl rfl rfl rfl rfl ?_
 refine Fi (sT [(1,.asl 27 11)] [(27,.arr 61 [.own 1 (List.map e65 l).length,.own 2 (List.map e67 r0_Horses).length,jI r0_Dark,jI r0_Near,jI r0_Match,.own 4 (List.map e65 r0_Hanks1).length,.own 5 (List.map e67 r0_Horses1).length,jI r0_Dark1,jI r0_Near1,jI r0_Match1,.own 7 (List.map e65 r0_Hanks2).length,.own 8 (List.map e67 r0_Horses2).length,jI r0_Dark2,jI r0_Near2,jI r0_Match2,.own 10 (List.map e65 r0_Hanks3).length,.own 11 (List.map e67 r0_Horses3).length,jI r0_Dark3,jI r0_Near3,jI r0_Match3,.own 13 (List.map e65 r0_Hanks4).length,.own 14 (List.map e67 r0_Horses4).length,jI r0_Dark4,jI r0_Near4,jI r0_Match4,.own 16 (List.map e65 r0_Hanks5).length,.own 17 (List.map e67 r0_Horses5).length,jI r0_Dark5,jI r0_Near5,jI r0_Match5,.own 19 (List.map e65 r0_Hanks6).length,.own 20 (List.map e67 r0_Horses6).length,jI r0_Dark6,jI r0_Near6,jI r0_Match6,.own 22 (List.map e65 r0_Hanks7).length,.own 23 (List.map e67 r0_Horses7).length,jI r0_Dark7,jI r0_Near7,jI r0_Match7,.own 25 (List.map e65 r0_Hanks8).length,.own 26 (List.map e67 r0_Horses8).length,jI r0_Dark8,jI r0_Near8,jI r0_Match8,.d (.sl 4 (List.map e65 r0_11.Hanks)),.d (.sl 3 (List.map e67 r0_11.Horses)),jI r0_11.Dark,jI r0_11.Near,jI r0_11.Match,.d (.sl 4 (List.map e65 r0_11_1.Hanks)),.d (.sl 3 (List.map e67 r0_11_1.Horses)),jI r0_11_1.Dark,jI r0_11_1.Near,jI r0_11_1.Match]),(1,.row 65 4 (List.map e65 l)),(25,.row 65 4 (List.map e65 r0_Hanks8)),(26,.row 67 3 (List.map e67 r0_Horses8)),(22,.row 65 4 (List.map e65 r0_Hanks7)),(23,.row 67 3 (List.map e67 r0_Horses7)),(19,.row 65 4 (List.map e65 r0_Hanks6)),(20,.row 67 3 (List.map e67 r0_Horses6)),(16,.row 65 4 (List.map e65 r0_Hanks5)),(17,.row 67 3 (List.map e67 r0_Horses5)),(13,.row 65 4 (List.map e65 r0_Hanks4)),(14,.row 67 3 (List.map e67 r0_Horses4)),(10,.row 65 4 (List.map e65 r0_Hanks3)),(11,.row 67 3 (List.map e67 r0_Horses3)),(7,.row 65 4 (List.map e65 r0_Hanks2)),(8,.row 67 3 (List.map e67 r0_Horses2)),(4,.row 65 4 (List.map e65 r0_Hanks1)),(5,.row 67 3 (List.map e67 r0_Horses1)),(2,.row 67 3 (List.map e67 r0_Horses))] 28 0) ?_
 refine hQ_13 _ ?_
 refine AW.sdrwK fokW (fun Q_16 hQ_16=>?_)
 refine aX 2 (sT [(1,.asl 27 11),(82,.asl 27 11),(83,.asl 27 11)] [(27,.arr 61 [.own 1 (List.map e65 l).length,.own 2 (List.map e67 r0_Horses).length,jI r0_Dark,jI r0_Near,jI r0_Match,.own 4 (List.map e65 r0_Hanks1).length,.own 5 (List.map e67 r0_Horses1).length,jI r0_Dark1,jI r0_Near1,jI r0_Match1,.own 7 (List.map e65 r0_Hanks2).length,.own 8 (List.map e67 r0_Horses2).length,jI r0_Dark2,jI r0_Near2,jI r0_Match2,.own 10 (List.map e65 r0_Hanks3).length,.own 11 (List.map e67 r0_Horses3).length,jI r0_Dark3,jI r0_Near3,jI r0_Match3,.own 13 (List.map e65 r0_Hanks4).length,.own 14 (List.map e67 r0_Horses4).length,jI r0_Dark4,jI r0_Near4,jI r0_Match4,.own 16 (List.map e65 r0_Hanks5).length,.own 17 (List.map e67 r0_Horses5).length,jI r0_Dark5,jI r0_Near5,jI r0_Match5,.own 19 (List.map e65 r0_Hanks6).length,.own 20 (List.map e67 r0_Horses6).length,jI r0_Dark6,jI r0_Near6,jI r0_Match6,.own 22 (List.map e65 r0_Hanks7).length,.own 23 (List.map e67 r0_Horses7).length,jI r0_Dark7,jI r0_Near7,jI r0_Match7,.own 25 (List.map e65 r0_Hanks8).length,.own 26 (List.map e67 r0_Horses8).length,jI r0_Dark8,jI r0_Near8,jI r0_Match8,.d (.sl 4 (List.map e65 r0_11.Hanks)),.d (.sl 3 (List.map e67 r0_11.Horses)),jI r0_11.Dark,jI r0_11.Near,jI r0_11.Match,.d (.sl 4 (List.map e65 r0_11_1.Hanks)),.d (.sl 3 (List.map e67 r0_11_1.Horses)),jI r0_11_1.Dark,jI r0_11_1.Near,jI r0_11_1.Match]),(1,.row 65 4 (List.map e65 l)),(25,.row 65 4 (List.map e65 r0_Hanks8)),(26,.row 67 3 (List.map e67 r0_Horses8)),(22,.row 65 4 (List.map e65 r0_Hanks7)),(23,.row 67 3 (List.map e67 r0_Horses7)),(19,.row 65 4 (List.map e65 r0_Hanks6)),(20,.row 67 3 (List.map e67 r0_Horses6)),(16,.row 65 4 (List.map e65 r0_Hanks5)),(17,.row 67 3 (List.map e67 r0_Horses5)),(13,.row 65 4 (List.map e65 r0_Hanks4)),(14,.row 67 3 (List.map e67 r0_Horses4)),(10,.row 65 4 (List.map e65 r0_Hanks3)),(11,.row 67 3 (List.map e67 r0_Horses3)),(7,.row 65 4 (List.map e65 r0_Hanks2)),(8,.row 67 3 (List.map e67 r0_Horses2)),(4,.row 65 4 (List.map e65 r0_Hanks1)),(5,.row 67 3 (List.map e67 r0_Horses1)),(2,.row 67 3 (List.map e67 r0_Horses))] 28 0) ?_
 refine r_iaAS trivial rfl rfl rfl (by decide) (by decide) ?_
 refine r_faddrA trivial rfl ?_
 refine r_loadAV trivial rfl rfl rfl ?_
 obtain ⟨r0_11_3,hx_17,h⟩:=bsome h
 refine r_call trivial rfl (k26a _ hx_17) rfl rfl ?_
 refine aX 1 (sT [(1,.asl 27 11),(82,.asl 27 11),(86,.own 5 (List.map e67 r0_Horses1).length),(88,.d (.sl 3 (List.map e67 r0_11_3.Horses)))] [(27,.arr 61 [.own 1 (List.map e65 l).length,.own 2 (List.map e67 r0_Horses).length,jI r0_Dark,jI r0_Near,jI r0_Match,.own 4 (List.map e65 r0_Hanks1).length,.own 5 (List.map e67 r0_Horses1).length,jI r0_Dark1,jI r0_Near1,jI r0_Match1,.own 7 (List.map e65 r0_Hanks2).length,.own 8 (List.map e67 r0_Horses2).length,jI r0_Dark2,jI r0_Near2,jI r0_Match2,.own 10 (List.map e65 r0_Hanks3).length,.own 11 (List.map e67 r0_Horses3).length,jI r0_Dark3,jI r0_Near3,jI r0_Match3,.own 13 (List.map e65 r0_Hanks4).length,.own 14 (List.map e67 r0_Horses4).length,jI r0_Dark4,jI r0_Near4,jI r0_Match4,.own 16 (List.map e65 r0_Hanks5).length,.own 17 (List.map e67 r0_Horses5).length,jI r0_Dark5,jI r0_Near5,jI r0_Match5,.own 19 (List.map e65 r0_Hanks6).length,.own 20 (List.map e67 r0_Horses6).length,jI r0_Dark6,jI r0_Near6,jI r0_Match6,.own 22 (List.map e65 r0_Hanks7).length,.own 23 (List.map e67 r0_Horses7).length,jI r0_Dark7,jI r0_Near7,jI r0_Match7,.own 25 (List.map e65 r0_Hanks8).length,.own 26 (List.map e67 r0_Horses8).length,jI r0_Dark8,jI r0_Near8,jI r0_Match8,.d (.sl 4 (List.map e65 r0_11.Hanks)),.d (.sl 3 (List.map e67 r0_11.Horses)),jI r0_11.Dark,jI r0_11.Near,jI r0_11.Match,.d (.sl 4 (List.map e65 r0_11_1.Hanks)),.d (.sl 3 (List.map e67 r0_11_1.Horses)),jI r0_11_1.Dark,jI r0_11_1.Near,jI r0_11_1.Match]),(1,.row 65 4 (List.map e65 l)),(25,.row 65 4 (List.map e65 r0_Hanks8)),(26,.row 67 3 (List.map e67 r0_Horses8)),(22,.row 65 4 (List.map e65 r0_Hanks7)),(23,.row 67 3 (List.map e67 r0_Horses7)),(19,.row 65 4 (List.map e65 r0_Hanks6)),(20,.row 67 3 (List.map e67 r0_Horses6)),(16,.row 65 4 (List.map e65 r0_Hanks5)),(17,.row 67 3 (List.map e67 r0_Horses5)),(13,.row 65 4 (List.map e65 r0_Hanks4)),(14,.row 67 3 (List.map e67 r0_Horses4)),(10,.row 65 4 (List.map e65 r0_Hanks3)),(11,.row 67 3 (List.map e67 r0_Horses3)),(7,.row 65 4 (List.map e65 r0_Hanks2)),(8,.row 67 3 (List.map e67 r0_Horses2)),(4,.row 65 4 (List.map e65 r0_Hanks1)),(5,.row 67 3 (List.map e67 r0_Horses1)),(2,.row 67 3 (List.map e67 r0_Horses))] 28 0) ?_
 obtain ⟨l1,hv_18,h⟩:=bsome h
 refine r_apD trivial rfl rfl rfl rfl (apz hv_18 e67) (apr hv_18 e67) ?_
 refine r_iaAS trivial rfl rfl rfl (by decide) (by decide) ?_
 refine r_faddrA trivial rfl ?_
 refine r_storeA trivial rfl rfl rfl rfl rfl rfl ?_
 refine Fi (sT [(1,.asl 27 11)] [(27,.arr 61 [.own 1 (List.map e65 l).length,.own 2 (List.map e67 r0_Horses).length,jI r0_Dark,jI r0_Near,jI r0_Match,.own 4 (List.map e65 r0_Hanks1).length,.own 5 (List.map e67 l1).length,jI r0_Dark1,jI r0_Near1,jI r0_Match1,.own 7 (List.map e65 r0_Hanks2).length,.own 8 (List.map e67 r0_Horses2).length,jI r0_Dark2,jI r0_Near2,jI r0_Match2,.own 10 (List.map e65 r0_Hanks3).length,.own 11 (List.map e67 r0_Horses3).length,jI r0_Dark3,jI r0_Near3,jI r0_Match3,.own 13 (List.map e65 r0_Hanks4).length,.own 14 (List.map e67 r0_Horses4).length,jI r0_Dark4,jI r0_Near4,jI r0_Match4,.own 16 (List.map e65 r0_Hanks5).length,.own 17 (List.map e67 r0_Horses5).length,jI r0_Dark5,jI r0_Near5,jI r0_Match5,.own 19 (List.map e65 r0_Hanks6).length,.own 20 (List.map e67 r0_Horses6).length,jI r0_Dark6,jI r0_Near6,jI r0_Match6,.own 22 (List.map e65 r0_Hanks7).length,.own 23 (List.map e67 r0_Horses7).length,jI r0_Dark7,jI r0_Near7,jI r0_Match7,.own 25 (List.map e65 r0_Hanks8).length,.own 26 (List.map e67 r0_Horses8).length,jI r0_Dark8,jI r0_Near8,jI r0_Match8,.d (.sl 4 (List.map e65 r0_11.Hanks)),.d (.sl 3 (List.map e67 r0_11.Horses)),jI r0_11.Dark,jI r0_11.Near,jI r0_11.Match,.d (.sl 4 (List.map e65 r0_11_1.Hanks)),.d (.sl 3 (List.map e67 r0_11_1.Horses)),jI r0_11_1.Dark,jI r0_11_1.Near,jI r0_11_1.Match]),(5,.row 67 3 (List.map e67 l1)),(1,.row 65 4 (List.map e65 l)),(25,.row 65 4 (List.map e65 r0_Hanks8)),(26,.row 67 3 (List.map e67 r0_Horses8)),(22,.row 65 4 (List.map e65 r0_Hanks7)),(23,.row 67 3 (List.map e67 r0_Horses7)),(19,.row 65 4 (List.map e65 r0_Hanks6)),(20,.row 67 3 (List.map e67 r0_Horses6)),(16,.row 65 4 (List.map e65 r0_Hanks5)),(17,.row 67 3 (List.map e67 r0_Horses5)),(13,.row 65 4 (List.map e65 r0_Hanks4)),(14,.row 67 3 (List.map e67 r0_Horses4)),(10,.row 65 4 (List.map e65 r0_Hanks3)),(11,.row 67 3 (List.map e67 r0_Horses3)),(7,.row 65 4 (List.map e65 r0_Hanks2)),(8,.row 67 3 (List.map e67 r0_Horses2)),(4,.row 65 4 (List.map e65 r0_Hanks1)),(2,.row 67 3 (List.map e67 r0_Horses))] 28 0) ?_
 refine hQ_16 _ ?_
 refine AW.sdrwK fokW (fun Q_19 hQ_19=>?_)
 refine aX 1 (sT [(1,.asl 27 11),(92,.asl 27 11)] [(27,.arr 61 [.own 1 (List.map e65 l).length,.own 2 (List.map e67 r0_Horses).length,jI r0_Dark,jI r0_Near,jI r0_Match,.own 4 (List.map e65 r0_Hanks1).length,.own 5 (List.map e67 l1).length,jI r0_Dark1,jI r0_Near1,jI r0_Match1,.own 7 (List.map e65 r0_Hanks2).length,.own 8 (List.map e67 r0_Horses2).length,jI r0_Dark2,jI r0_Near2,jI r0_Match2,.own 10 (List.map e65 r0_Hanks3).length,.own 11 (List.map e67 r0_Horses3).length,jI r0_Dark3,jI r0_Near3,jI r0_Match3,.own 13 (List.map e65 r0_Hanks4).length,.own 14 (List.map e67 r0_Horses4).length,jI r0_Dark4,jI r0_Near4,jI r0_Match4,.own 16 (List.map e65 r0_Hanks5).length,.own 17 (List.map e67 r0_Horses5).length,jI r0_Dark5,jI r0_Near5,jI r0_Match5,.own 19 (List.map e65 r0_Hanks6).length,.own 20 (List.map e67 r0_Horses6).length,jI r0_Dark6,jI r0_Near6,jI r0_Match6,.own 22 (List.map e65 r0_Hanks7).length,.own 23 (List.map e67 r0_Horses7).length,jI r0_Dark7,jI r0_Near7,jI r0_Match7,.own 25 (List.map e65 r0_Hanks8).length,.own 26 (List.map e67 r0_Horses8).length,jI r0_Dark8,jI r0_Near8,jI r0_Match8,.d (.sl 4 (List.map e65 r0_11.Hanks)),.d (.sl 3 (List.map e67 r0_11.Horses)),jI r0_11.Dark,jI r0_11.Near,jI r0_11.Match,.d (.sl 4 (List.map e65 r0_11_1.Hanks)),.d (.sl 3 (List.map e67 r0_11_1.Horses)),jI r0_11_1.Dark,jI r0_11_1.Near,jI r0_11_1.Match]),(5,.row 67 3 (List.map e67 l1)),(1,.row 65 4 (List.map e65 l)),(25,.row 65 4 (List.map e65 r0_Hanks8)),(26,.row 67 3 (List.map e67 r0_Horses8)),(22,.row 65 4 (List.map e65 r0_Hanks7)),(23,.row 67 3 (List.map e67 r0_Horses7)),(19,.row 65 4 (List.map e65 r0_Hanks6)),(20,.row 67 3 (List.map e67 r0_Horses6)),(16,.row 65 4 (List.map e65 r0_Hanks5)),(17,.row 67 3 (List.map e67 r0_Horses5)),(13,.row 65 4 (List.map e65 r0_Hanks4)),(14,.row 67 3 (List.map e67 r0_Horses4)),(10,.row 65 4 (List.map e65 r0_Hanks3)),(11,.row 67 3 (List.map e67 r0_Horses3)),(7,.row 65 4 (List.map e65 r0_Hanks2)),(8,.row 67 3 (List.map e67 r0_Horses2)),(4,.row 65 4 (List.map e65 r0_Hanks1)),(2,.row 67 3 (List.map e67 r0_Horses))] 28 0) ?_
 refine r_iaAS trivial rfl rfl rfl (by decide) (by decide) ?_
 refine r_faddrA trivial rfl ?_
 refine r_loadAV trivial rfl rfl rfl ?_
 obtain ⟨r0,hx_20,h⟩:=bsome h
 refine r_call trivial rfl (k10 10 15 _ hx_20) rfl rfl ?_
 obtain ⟨p,hv_21,h⟩:=bsome h
 refine r_iaO trivial rfl rfl rfl (ixL_ok hv_21).1 (ix_lt (ixL_ok hv_21).2) rfl ?_
 refine aX 1 (sT [(1,.asl 27 11),(96,.agg [jI r0.Low,jI r0.High]),(98,.eptr 7 (List.map e65 r0_Hanks2).length (0:Int).toNat 0)] [(27,.arr 61 [.own 1 (List.map e65 l).length,.own 2 (List.map e67 r0_Horses).length,jI r0_Dark,jI r0_Near,jI r0_Match,.own 4 (List.map e65 r0_Hanks1).length,.own 5 (List.map e67 l1).length,jI r0_Dark1,jI r0_Near1,jI r0_Match1,.own 7 (List.map e65 r0_Hanks2).length,.own 8 (List.map e67 r0_Horses2).length,jI r0_Dark2,jI r0_Near2,jI r0_Match2,.own 10 (List.map e65 r0_Hanks3).length,.own 11 (List.map e67 r0_Horses3).length,jI r0_Dark3,jI r0_Near3,jI r0_Match3,.own 13 (List.map e65 r0_Hanks4).length,.own 14 (List.map e67 r0_Horses4).length,jI r0_Dark4,jI r0_Near4,jI r0_Match4,.own 16 (List.map e65 r0_Hanks5).length,.own 17 (List.map e67 r0_Horses5).length,jI r0_Dark5,jI r0_Near5,jI r0_Match5,.own 19 (List.map e65 r0_Hanks6).length,.own 20 (List.map e67 r0_Horses6).length,jI r0_Dark6,jI r0_Near6,jI r0_Match6,.own 22 (List.map e65 r0_Hanks7).length,.own 23 (List.map e67 r0_Horses7).length,jI r0_Dark7,jI r0_Near7,jI r0_Match7,.own 25 (List.map e65 r0_Hanks8).length,.own 26 (List.map e67 r0_Horses8).length,jI r0_Dark8,jI r0_Near8,jI r0_Match8,.d (.sl 4 (List.map e65 r0_11.Hanks)),.d (.sl 3 (List.map e67 r0_11.Horses)),jI r0_11.Dark,jI r0_11.Near,jI r0_11.Match,.d (.sl 4 (List.map e65 r0_11_1.Hanks)),.d (.sl 3 (List.map e67 r0_11_1.Horses)),jI r0_11_1.Dark,jI r0_11_1.Near,jI r0_11_1.Match]),(5,.row 67 3 (List.map e67 l1)),(1,.row 65 4 (List.map e65 l)),(25,.row 65 4 (List.map e65 r0_Hanks8)),(26,.row 67 3 (List.map e67 r0_Horses8)),(22,.row 65 4 (List.map e65 r0_Hanks7)),(23,.row 67 3 (List.map e67 r0_Horses7)),(19,.row 65 4 (List.map e65 r0_Hanks6)),(20,.row 67 3 (List.map e67 r0_Horses6)),(16,.row 65 4 (List.map e65 r0_Hanks5)),(17,.row 67 3 (List.map e67 r0_Horses5)),(13,.row 65 4 (List.map e65 r0_Hanks4)),(14,.row 67 3 (List.map e67 r0_Horses4)),(10,.row 65 4 (List.map e65 r0_Hanks3)),(11,.row 67 3 (List.map e67 r0_Horses3)),(7,.row 65 4 (List.map e65 r0_Hanks2)),(8,.row 67 3 (List.map e67 r0_Horses2)),(4,.row 65 4 (List.map e65 r0_Hanks1)),(2,.row 67 3 (List.map e67 r0_Horses))] 28 0) ?_
 refine r_stE trivial rfl rfl rfl rfl (mapget (f:=e65) (ixL_ok hv_21).2) rfl rfl rfl (Nat.le_of_ble_eq_true rfl) (stz (f:=e65) (x:=(HairHank.mk r0 p.Shade)) rfl) ?_
 rw [lenset (f:=e65) (xs:=r0_Hanks2) (i:=0) (x:=(HairHank.mk r0 p.Shade))]
 refine Fi (sT [(1,.asl 27 11)] [(7,.row 65 4 (List.map e65 (setL r0_Hanks2 0 (HairHank.mk r0 p.Shade)))),(27,.arr 61 [.own 1 (List.map e65 l).length,.own 2 (List.map e67 r0_Horses).length,jI r0_Dark,jI r0_Near,jI r0_Match,.own 4 (List.map e65 r0_Hanks1).length,.own 5 (List.map e67 l1).length,jI r0_Dark1,jI r0_Near1,jI r0_Match1,.own 7 (List.map e65 (setL r0_Hanks2 0 (HairHank.mk r0 p.Shade))).length,.own 8 (List.map e67 r0_Horses2).length,jI r0_Dark2,jI r0_Near2,jI r0_Match2,.own 10 (List.map e65 r0_Hanks3).length,.own 11 (List.map e67 r0_Horses3).length,jI r0_Dark3,jI r0_Near3,jI r0_Match3,.own 13 (List.map e65 r0_Hanks4).length,.own 14 (List.map e67 r0_Horses4).length,jI r0_Dark4,jI r0_Near4,jI r0_Match4,.own 16 (List.map e65 r0_Hanks5).length,.own 17 (List.map e67 r0_Horses5).length,jI r0_Dark5,jI r0_Near5,jI r0_Match5,.own 19 (List.map e65 r0_Hanks6).length,.own 20 (List.map e67 r0_Horses6).length,jI r0_Dark6,jI r0_Near6,jI r0_Match6,.own 22 (List.map e65 r0_Hanks7).length,.own 23 (List.map e67 r0_Horses7).length,jI r0_Dark7,jI r0_Near7,jI r0_Match7,.own 25 (List.map e65 r0_Hanks8).length,.own 26 (List.map e67 r0_Horses8).length,jI r0_Dark8,jI r0_Near8,jI r0_Match8,.d (.sl 4 (List.map e65 r0_11.Hanks)),.d (.sl 3 (List.map e67 r0_11.Horses)),jI r0_11.Dark,jI r0_11.Near,jI r0_11.Match,.d (.sl 4 (List.map e65 r0_11_1.Hanks)),.d (.sl 3 (List.map e67 r0_11_1.Horses)),jI r0_11_1.Dark,jI r0_11_1.Near,jI r0_11_1.Match]),(5,.row 67 3 (List.map e67 l1)),(1,.row 65 4 (List.map e65 l)),(25,.row 65 4 (List.map e65 r0_Hanks8)),(26,.row 67 3 (List.map e67 r0_Horses8)),(22,.row 65 4 (List.map e65 r0_Hanks7)),(23,.row 67 3 (List.map e67 r0_Horses7)),(19,.row 65 4 (List.map e65 r0_Hanks6)),(20,.row 67 3 (List.map e67 r0_Horses6)),(16,.row 65 4 (List.map e65 r0_Hanks5)),(17,.row 67 3 (List.map e67 r0_Horses5)),(13,.row 65 4 (List.map e65 r0_Hanks4)),(14,.row 67 3 (List.map e67 r0_Horses4)),(10,.row 65 4 (List.map e65 r0_Hanks3)),(11,.row 67 3 (List.map e67 r0_Horses3)),(8,.row 67 3 (List.map e67 r0_Horses2)),(4,.row 65 4 (List.map e65 r0_Hanks1)),(2,.row 67 3 (List.map e67 r0_Horses))] 28 0) ?_
 refine hQ_19 _ ?_
 refine AW.sdrwK fokW (fun Q_22 hQ_22=>?_)
 refine aX 1 (sT [(1,.asl 27 11),(99,.asl 27 11)] [(7,.row 65 4 (List.map e65 (setL r0_Hanks2 0 (HairHank.mk r0 p.Shade)))),(27,.arr 61 [.own 1 (List.map e65 l).length,.own 2 (List.map e67 r0_Horses).length,jI r0_Dark,jI r0_Near,jI r0_Match,.own 4 (List.map e65 r0_Hanks1).length,.own 5 (List.map e67 l1).length,jI r0_Dark1,jI r0_Near1,jI r0_Match1,.own 7 (List.map e65 (setL r0_Hanks2 0 (HairHank.mk r0 p.Shade))).length,.own 8 (List.map e67 r0_Horses2).length,jI r0_Dark2,jI r0_Near2,jI r0_Match2,.own 10 (List.map e65 r0_Hanks3).length,.own 11 (List.map e67 r0_Horses3).length,jI r0_Dark3,jI r0_Near3,jI r0_Match3,.own 13 (List.map e65 r0_Hanks4).length,.own 14 (List.map e67 r0_Horses4).length,jI r0_Dark4,jI r0_Near4,jI r0_Match4,.own 16 (List.map e65 r0_Hanks5).length,.own 17 (List.map e67 r0_Horses5).length,jI r0_Dark5,jI r0_Near5,jI r0_Match5,.own 19 (List.map e65 r0_Hanks6).length,.own 20 (List.map e67 r0_Horses6).length,jI r0_Dark6,jI r0_Near6,jI r0_Match6,.own 22 (List.map e65 r0_Hanks7).length,.own 23 (List.map e67 r0_Horses7).length,jI r0_Dark7,jI r0_Near7,jI r0_Match7,.own 25 (List.map e65 r0_Hanks8).length,.own 26 (List.map e67 r0_Horses8).length,jI r0_Dark8,jI r0_Near8,jI r0_Match8,.d (.sl 4 (List.map e65 r0_11.Hanks)),.d (.sl 3 (List.map e67 r0_11.Horses)),jI r0_11.Dark,jI r0_11.Near,jI r0_11.Match,.d (.sl 4 (List.map e65 r0_11_1.Hanks)),.d (.sl 3 (List.map e67 r0_11_1.Horses)),jI r0_11_1.Dark,jI r0_11_1.Near,jI r0_11_1.Match]),(5,.row 67 3 (List.map e67 l1)),(1,.row 65 4 (List.map e65 l)),(25,.row 65 4 (List.map e65 r0_Hanks8)),(26,.row 67 3 (List.map e67 r0_Horses8)),(22,.row 65 4 (List.map e65 r0_Hanks7)),(23,.row 67 3 (List.map e67 r0_Horses7)),(19,.row 65 4 (List.map e65 r0_Hanks6)),(20,.row 67 3 (List.map e67 r0_Horses6)),(16,.row 65 4 (List.map e65 r0_Hanks5)),(17,.row 67 3 (List.map e67 r0_Horses5)),(13,.row 65 4 (List.map e65 r0_Hanks4)),(14,.row 67 3 (List.map e67 r0_Horses4)),(10,.row 65 4 (List.map e65 r0_Hanks3)),(11,.row 67 3 (List.map e67 r0_Horses3)),(8,.row 67 3 (List.map e67 r0_Horses2)),(4,.row 65 4 (List.map e65 r0_Hanks1)),(2,.row 67 3 (List.map e67 r0_Horses))] 28 0) ?_
 refine r_iaAS trivial rfl rfl rfl (by decide) (by decide) ?_
 refine r_faddrA trivial rfl ?_
 refine r_loadAV trivial rfl rfl rfl ?_
 obtain ⟨r0_1,hx_23,h⟩:=bsome h
 refine r_call trivial rfl (k24 61 _ hx_23) rfl rfl ?_
 obtain ⟨p1,hv_24,h⟩:=bsome h
 refine r_iaO trivial rfl rfl rfl (ixL_ok hv_24).1 (ix_lt (ixL_ok hv_24).2) rfl ?_
 refine aX 1 (sT [(1,.asl 27 11),(103,.agg [jI r0_1.Low,jI r0_1.High]),(105,.eptr 10 (List.map e65 r0_Hanks3).length (0:Int).toNat 0)] [(7,.row 65 4 (List.map e65 (setL r0_Hanks2 0 (HairHank.mk r0 p.Shade)))),(27,.arr 61 [.own 1 (List.map e65 l).length,.own 2 (List.map e67 r0_Horses).length,jI r0_Dark,jI r0_Near,jI r0_Match,.own 4 (List.map e65 r0_Hanks1).length,.own 5 (List.map e67 l1).length,jI r0_Dark1,jI r0_Near1,jI r0_Match1,.own 7 (List.map e65 (setL r0_Hanks2 0 (HairHank.mk r0 p.Shade))).length,.own 8 (List.map e67 r0_Horses2).length,jI r0_Dark2,jI r0_Near2,jI r0_Match2,.own 10 (List.map e65 r0_Hanks3).length,.own 11 (List.map e67 r0_Horses3).length,jI r0_Dark3,jI r0_Near3,jI r0_Match3,.own 13 (List.map e65 r0_Hanks4).length,.own 14 (List.map e67 r0_Horses4).length,jI r0_Dark4,jI r0_Near4,jI r0_Match4,.own 16 (List.map e65 r0_Hanks5).length,.own 17 (List.map e67 r0_Horses5).length,jI r0_Dark5,jI r0_Near5,jI r0_Match5,.own 19 (List.map e65 r0_Hanks6).length,.own 20 (List.map e67 r0_Horses6).length,jI r0_Dark6,jI r0_Near6,jI r0_Match6,.own 22 (List.map e65 r0_Hanks7).length,.own 23 (List.map e67 r0_Horses7).length,jI r0_Dark7,jI r0_Near7,jI r0_Match7,.own 25 (List.map e65 r0_Hanks8).length,.own 26 (List.map e67 r0_Horses8).length,jI r0_Dark8,jI r0_Near8,jI r0_Match8,.d (.sl 4 (List.map e65 r0_11.Hanks)),.d (.sl 3 (List.map e67 r0_11.Horses)),jI r0_11.Dark,jI r0_11.Near,jI r0_11.Match,.d (.sl 4 (List.map e65 r0_11_1.Hanks)),.d (.sl 3 (List.map e67 r0_11_1.Horses)),jI r0_11_1.Dark,jI r0_11_1.Near,jI r0_11_1.Match]),(5,.row 67 3 (List.map e67 l1)),(1,.row 65 4 (List.map e65 l)),(25,.row 65 4 (List.map e65 r0_Hanks8)),(26,.row 67 3 (List.map e67 r0_Horses8)),(22,.row 65 4 (List.map e65 r0_Hanks7)),(23,.row 67 3 (List.map e67 r0_Horses7)),(19,.row 65 4 (List.map e65 r0_Hanks6)),(20,.row 67 3 (List.map e67 r0_Horses6)),(16,.row 65 4 (List.map e65 r0_Hanks5)),(17,.row 67 3 (List.map e67 r0_Horses5)),(13,.row 65 4 (List.map e65 r0_Hanks4)),(14,.row 67 3 (List.map e67 r0_Horses4)),(10,.row 65 4 (List.map e65 r0_Hanks3)),(11,.row 67 3 (List.map e67 r0_Horses3)),(8,.row 67 3 (List.map e67 r0_Horses2)),(4,.row 65 4 (List.map e65 r0_Hanks1)),(2,.row 67 3 (List.map e67 r0_Horses))] 28 0) ?_
 refine r_stE trivial rfl rfl rfl rfl (mapget (f:=e65) (ixL_ok hv_24).2) rfl rfl rfl (Nat.le_of_ble_eq_true rfl) (stz (f:=e65) (x:=(HairHank.mk r0_1 p1.Shade)) rfl) ?_
 rw [lenset (f:=e65) (xs:=r0_Hanks3) (i:=0) (x:=(HairHank.mk r0_1 p1.Shade))]
 refine Fi (sT [(1,.asl 27 11)] [(10,.row 65 4 (List.map e65 (setL r0_Hanks3 0 (HairHank.mk r0_1 p1.Shade)))),(7,.row 65 4 (List.map e65 (setL r0_Hanks2 0 (HairHank.mk r0 p.Shade)))),(27,.arr 61 [.own 1 (List.map e65 l).length,.own 2 (List.map e67 r0_Horses).length,jI r0_Dark,jI r0_Near,jI r0_Match,.own 4 (List.map e65 r0_Hanks1).length,.own 5 (List.map e67 l1).length,jI r0_Dark1,jI r0_Near1,jI r0_Match1,.own 7 (List.map e65 (setL r0_Hanks2 0 (HairHank.mk r0 p.Shade))).length,.own 8 (List.map e67 r0_Horses2).length,jI r0_Dark2,jI r0_Near2,jI r0_Match2,.own 10 (List.map e65 (setL r0_Hanks3 0 (HairHank.mk r0_1 p1.Shade))).length,.own 11 (List.map e67 r0_Horses3).length,jI r0_Dark3,jI r0_Near3,jI r0_Match3,.own 13 (List.map e65 r0_Hanks4).length,.own 14 (List.map e67 r0_Horses4).length,jI r0_Dark4,jI r0_Near4,jI r0_Match4,.own 16 (List.map e65 r0_Hanks5).length,.own 17 (List.map e67 r0_Horses5).length,jI r0_Dark5,jI r0_Near5,jI r0_Match5,.own 19 (List.map e65 r0_Hanks6).length,.own 20 (List.map e67 r0_Horses6).length,jI r0_Dark6,jI r0_Near6,jI r0_Match6,.own 22 (List.map e65 r0_Hanks7).length,.own 23 (List.map e67 r0_Horses7).length,jI r0_Dark7,jI r0_Near7,jI r0_Match7,.own 25 (List.map e65 r0_Hanks8).length,.own 26 (List.map e67 r0_Horses8).length,jI r0_Dark8,jI r0_Near8,jI r0_Match8,.d (.sl 4 (List.map e65 r0_11.Hanks)),.d (.sl 3 (List.map e67 r0_11.Horses)),jI r0_11.Dark,jI r0_11.Near,jI r0_11.Match,.d (.sl 4 (List.map e65 r0_11_1.Hanks)),.d (.sl 3 (List.map e67 r0_11_1.Horses)),jI r0_11_1.Dark,jI r0_11_1.Near,jI r0_11_1.Match]),(5,.row 67 3 (List.map e67 l1)),(1,.row 65 4 (List.map e65 l)),(25,.row 65 4 (List.map e65 r0_Hanks8)),(26,.row 67 3 (List.map e67 r0_Horses8)),(22,.row 65 4 (List.map e65 r0_Hanks7)),(23,.row 67 3 (List.map e67 r0_Horses7)),(19,.row 65 4 (List.map e65 r0_Hanks6)),(20,.row 67 3 (List.map e67 r0_Horses6)),(16,.row 65 4 (List.map e65 r0_Hanks5)),(17,.row 67 3 (List.map e67 r0_Horses5)),(13,.row 65 4 (List.map e65 r0_Hanks4)),(14,.row 67 3 (List.map e67 r0_Horses4)),(11,.row 67 3 (List.map e67 r0_Horses3)),(8,.row 67 3 (List.map e67 r0_Horses2)),(4,.row 65 4 (List.map e65 r0_Hanks1)),(2,.row 67 3 (List.map e67 r0_Horses))] 28 0) ?_
 refine hQ_22 _ ?_
 refine AW.sdrwK fokW (fun Q_25 hQ_25=>?_)
 refine aX 1 (sT [(1,.asl 27 11),(106,.asl 27 11)] [(10,.row 65 4 (List.map e65 (setL r0_Hanks3 0 (HairHank.mk r0_1 p1.Shade)))),(7,.row 65 4 (List.map e65 (setL r0_Hanks2 0 (HairHank.mk r0 p.Shade)))),(27,.arr 61 [.own 1 (List.map e65 l).length,.own 2 (List.map e67 r0_Horses).length,jI r0_Dark,jI r0_Near,jI r0_Match,.own 4 (List.map e65 r0_Hanks1).length,.own 5 (List.map e67 l1).length,jI r0_Dark1,jI r0_Near1,jI r0_Match1,.own 7 (List.map e65 (setL r0_Hanks2 0 (HairHank.mk r0 p.Shade))).length,.own 8 (List.map e67 r0_Horses2).length,jI r0_Dark2,jI r0_Near2,jI r0_Match2,.own 10 (List.map e65 (setL r0_Hanks3 0 (HairHank.mk r0_1 p1.Shade))).length,.own 11 (List.map e67 r0_Horses3).length,jI r0_Dark3,jI r0_Near3,jI r0_Match3,.own 13 (List.map e65 r0_Hanks4).length,.own 14 (List.map e67 r0_Horses4).length,jI r0_Dark4,jI r0_Near4,jI r0_Match4,.own 16 (List.map e65 r0_Hanks5).length,.own 17 (List.map e67 r0_Horses5).length,jI r0_Dark5,jI r0_Near5,jI r0_Match5,.own 19 (List.map e65 r0_Hanks6).length,.own 20 (List.map e67 r0_Horses6).length,jI r0_Dark6,jI r0_Near6,jI r0_Match6,.own 22 (List.map e65 r0_Hanks7).length,.own 23 (List.map e67 r0_Horses7).length,jI r0_Dark7,jI r0_Near7,jI r0_Match7,.own 25 (List.map e65 r0_Hanks8).length,.own 26 (List.map e67 r0_Horses8).length,jI r0_Dark8,jI r0_Near8,jI r0_Match8,.d (.sl 4 (List.map e65 r0_11.Hanks)),.d (.sl 3 (List.map e67 r0_11.Horses)),jI r0_11.Dark,jI r0_11.Near,jI r0_11.Match,.d (.sl 4 (List.map e65 r0_11_1.Hanks)),.d (.sl 3 (List.map e67 r0_11_1.Horses)),jI r0_11_1.Dark,jI r0_11_1.Near,jI r0_11_1.Match]),(5,.row 67 3 (List.map e67 l1)),(1,.row 65 4 (List.map e65 l)),(25,.row 65 4 (List.map e65 r0_Hanks8)),(26,.row 67 3 (List.map e67 r0_Horses8)),(22,.row 65 4 (List.map e65 r0_Hanks7)),(23,.row 67 3 (List.map e67 r0_Horses7)),(19,.row 65 4 (List.map e65 r0_Hanks6)),(20,.row 67 3 (List.map e67 r0_Horses6)),(16,.row 65 4 (List.map e65 r0_Hanks5)),(17,.row 67 3 (List.map e67 r0_Horses5)),(13,.row 65 4 (List.map e65 r0_Hanks4)),(14,.row 67 3 (List.map e67 r0_Horses4)),(11,.row 67 3 (List.map e67 r0_Horses3)),(8,.row 67 3 (List.map e67 r0_Horses2)),(4,.row 65 4 (List.map e65 r0_Hanks1)),(2,.row 67 3 (List.map e67 r0_Horses))] 28 0) ?_
 refine r_iaAS trivial rfl rfl rfl (by decide) (by decide) ?_
 refine r_faddrA trivial rfl ?_
 refine r_loadAV trivial rfl rfl rfl ?_
 obtain ⟨r0_2,hx_26,h⟩:=bsome h
 refine r_call trivial rfl (k10 4 7 _ hx_26) rfl rfl ?_
 obtain ⟨p2,hv_27,h⟩:=bsome h
 refine r_iaO trivial rfl rfl rfl (ixL_ok hv_27).1 (ix_lt (ixL_ok hv_27).2) rfl ?_
 refine aX 1 (sT [(1,.asl 27 11),(110,.agg [jI r0_2.Low,jI r0_2.High]),(112,.eptr 13 (List.map e65 r0_Hanks4).length (0:Int).toNat 2)] [(10,.row 65 4 (List.map e65 (setL r0_Hanks3 0 (HairHank.mk r0_1 p1.Shade)))),(7,.row 65 4 (List.map e65 (setL r0_Hanks2 0 (HairHank.mk r0 p.Shade)))),(27,.arr 61 [.own 1 (List.map e65 l).length,.own 2 (List.map e67 r0_Horses).length,jI r0_Dark,jI r0_Near,jI r0_Match,.own 4 (List.map e65 r0_Hanks1).length,.own 5 (List.map e67 l1).length,jI r0_Dark1,jI r0_Near1,jI r0_Match1,.own 7 (List.map e65 (setL r0_Hanks2 0 (HairHank.mk r0 p.Shade))).length,.own 8 (List.map e67 r0_Horses2).length,jI r0_Dark2,jI r0_Near2,jI r0_Match2,.own 10 (List.map e65 (setL r0_Hanks3 0 (HairHank.mk r0_1 p1.Shade))).length,.own 11 (List.map e67 r0_Horses3).length,jI r0_Dark3,jI r0_Near3,jI r0_Match3,.own 13 (List.map e65 r0_Hanks4).length,.own 14 (List.map e67 r0_Horses4).length,jI r0_Dark4,jI r0_Near4,jI r0_Match4,.own 16 (List.map e65 r0_Hanks5).length,.own 17 (List.map e67 r0_Horses5).length,jI r0_Dark5,jI r0_Near5,jI r0_Match5,.own 19 (List.map e65 r0_Hanks6).length,.own 20 (List.map e67 r0_Horses6).length,jI r0_Dark6,jI r0_Near6,jI r0_Match6,.own 22 (List.map e65 r0_Hanks7).length,.own 23 (List.map e67 r0_Horses7).length,jI r0_Dark7,jI r0_Near7,jI r0_Match7,.own 25 (List.map e65 r0_Hanks8).length,.own 26 (List.map e67 r0_Horses8).length,jI r0_Dark8,jI r0_Near8,jI r0_Match8,.d (.sl 4 (List.map e65 r0_11.Hanks)),.d (.sl 3 (List.map e67 r0_11.Horses)),jI r0_11.Dark,jI r0_11.Near,jI r0_11.Match,.d (.sl 4 (List.map e65 r0_11_1.Hanks)),.d (.sl 3 (List.map e67 r0_11_1.Horses)),jI r0_11_1.Dark,jI r0_11_1.Near,jI r0_11_1.Match]),(5,.row 67 3 (List.map e67 l1)),(1,.row 65 4 (List.map e65 l)),(25,.row 65 4 (List.map e65 r0_Hanks8)),(26,.row 67 3 (List.map e67 r0_Horses8)),(22,.row 65 4 (List.map e65 r0_Hanks7)),(23,.row 67 3 (List.map e67 r0_Horses7)),(19,.row 65 4 (List.map e65 r0_Hanks6)),(20,.row 67 3 (List.map e67 r0_Horses6)),(16,.row 65 4 (List.map e65 r0_Hanks5)),(17,.row 67 3 (List.map e67 r0_Horses5)),(13,.row 65 4 (List.map e65 r0_Hanks4)),(14,.row 67 3 (List.map e67 r0_Horses4)),(11,.row 67 3 (List.map e67 r0_Horses3)),(8,.row 67 3 (List.map e67 r0_Horses2)),(4,.row 65 4 (List.map e65 r0_Hanks1)),(2,.row 67 3 (List.map e67 r0_Horses))] 28 0) ?_
 refine r_stE trivial rfl rfl rfl rfl (mapget (f:=e65) (ixL_ok hv_27).2) rfl rfl rfl (Nat.le_of_ble_eq_true rfl) (stz (f:=e65) (x:=(HairHank.mk p2.Weight r0_2)) rfl) ?_
 rw [lenset (f:=e65) (xs:=r0_Hanks4) (i:=0) (x:=(HairHank.mk p2.Weight r0_2))]
 refine Fi (sT [(1,.asl 27 11)] [(13,.row 65 4 (List.map e65 (setL r0_Hanks4 0 (HairHank.mk p2.Weight r0_2)))),(10,.row 65 4 (List.map e65 (setL r0_Hanks3 0 (HairHank.mk r0_1 p1.Shade)))),(7,.row 65 4 (List.map e65 (setL r0_Hanks2 0 (HairHank.mk r0 p.Shade)))),(27,.arr 61 [.own 1 (List.map e65 l).length,.own 2 (List.map e67 r0_Horses).length,jI r0_Dark,jI r0_Near,jI r0_Match,.own 4 (List.map e65 r0_Hanks1).length,.own 5 (List.map e67 l1).length,jI r0_Dark1,jI r0_Near1,jI r0_Match1,.own 7 (List.map e65 (setL r0_Hanks2 0 (HairHank.mk r0 p.Shade))).length,.own 8 (List.map e67 r0_Horses2).length,jI r0_Dark2,jI r0_Near2,jI r0_Match2,.own 10 (List.map e65 (setL r0_Hanks3 0 (HairHank.mk r0_1 p1.Shade))).length,.own 11 (List.map e67 r0_Horses3).length,jI r0_Dark3,jI r0_Near3,jI r0_Match3,.own 13 (List.map e65 (setL r0_Hanks4 0 (HairHank.mk p2.Weight r0_2))).length,.own 14 (List.map e67 r0_Horses4).length,jI r0_Dark4,jI r0_Near4,jI r0_Match4,.own 16 (List.map e65 r0_Hanks5).length,.own 17 (List.map e67 r0_Horses5).length,jI r0_Dark5,jI r0_Near5,jI r0_Match5,.own 19 (List.map e65 r0_Hanks6).length,.own 20 (List.map e67 r0_Horses6).length,jI r0_Dark6,jI r0_Near6,jI r0_Match6,.own 22 (List.map e65 r0_Hanks7).length,.own 23 (List.map e67 r0_Horses7).length,jI r0_Dark7,jI r0_Near7,jI r0_Match7,.own 25 (List.map e65 r0_Hanks8).length,.own 26 (List.map e67 r0_Horses8).length,jI r0_Dark8,jI r0_Near8,jI r0_Match8,.d (.sl 4 (List.map e65 r0_11.Hanks)),.d (.sl 3 (List.map e67 r0_11.Horses)),jI r0_11.Dark,jI r0_11.Near,jI r0_11.Match,.d (.sl 4 (List.map e65 r0_11_1.Hanks)),.d (.sl 3 (List.map e67 r0_11_1.Horses)),jI r0_11_1.Dark,jI r0_11_1.Near,jI r0_11_1.Match]),(5,.row 67 3 (List.map e67 l1)),(1,.row 65 4 (List.map e65 l)),(25,.row 65 4 (List.map e65 r0_Hanks8)),(26,.row 67 3 (List.map e67 r0_Horses8)),(22,.row 65 4 (List.map e65 r0_Hanks7)),(23,.row 67 3 (List.map e67 r0_Horses7)),(19,.row 65 4 (List.map e65 r0_Hanks6)),(20,.row 67 3 (List.map e67 r0_Horses6)),(16,.row 65 4 (List.map e65 r0_Hanks5)),(17,.row 67 3 (List.map e67 r0_Horses5)),(14,.row 67 3 (List.map e67 r0_Horses4)),(11,.row 67 3 (List.map e67 r0_Horses3)),(8,.row 67 3 (List.map e67 r0_Horses2)),(4,.row 65 4 (List.map e65 r0_Hanks1)),(2,.row 67 3 (List.map e67 r0_Horses))] 28 0) ?_
 refine hQ_25 _ ?_
 refine AW.sdrwK fokW (fun Q_28 hQ_28=>?_)
 refine aX 1 (sT [(1,.asl 27 11),(113,.asl 27 11)] [(13,.row 65 4 (List.map e65 (setL r0_Hanks4 0 (HairHank.mk p2.Weight r0_2)))),(10,.row 65 4 (List.map e65 (setL r0_Hanks3 0 (HairHank.mk r0_1 p1.Shade)))),(7,.row 65 4 (List.map e65 (setL r0_Hanks2 0 (HairHank.mk r0 p.Shade)))),(27,.arr 61 [.own 1 (List.map e65 l).length,.own 2 (List.map e67 r0_Horses).length,jI r0_Dark,jI r0_Near,jI r0_Match,.own 4 (List.map e65 r0_Hanks1).length,.own 5 (List.map e67 l1).length,jI r0_Dark1,jI r0_Near1,jI r0_Match1,.own 7 (List.map e65 (setL r0_Hanks2 0 (HairHank.mk r0 p.Shade))).length,.own 8 (List.map e67 r0_Horses2).length,jI r0_Dark2,jI r0_Near2,jI r0_Match2,.own 10 (List.map e65 (setL r0_Hanks3 0 (HairHank.mk r0_1 p1.Shade))).length,.own 11 (List.map e67 r0_Horses3).length,jI r0_Dark3,jI r0_Near3,jI r0_Match3,.own 13 (List.map e65 (setL r0_Hanks4 0 (HairHank.mk p2.Weight r0_2))).length,.own 14 (List.map e67 r0_Horses4).length,jI r0_Dark4,jI r0_Near4,jI r0_Match4,.own 16 (List.map e65 r0_Hanks5).length,.own 17 (List.map e67 r0_Horses5).length,jI r0_Dark5,jI r0_Near5,jI r0_Match5,.own 19 (List.map e65 r0_Hanks6).length,.own 20 (List.map e67 r0_Horses6).length,jI r0_Dark6,jI r0_Near6,jI r0_Match6,.own 22 (List.map e65 r0_Hanks7).length,.own 23 (List.map e67 r0_Horses7).length,jI r0_Dark7,jI r0_Near7,jI r0_Match7,.own 25 (List.map e65 r0_Hanks8).length,.own 26 (List.map e67 r0_Horses8).length,jI r0_Dark8,jI r0_Near8,jI r0_Match8,.d (.sl 4 (List.map e65 r0_11.Hanks)),.d (.sl 3 (List.map e67 r0_11.Horses)),jI r0_11.Dark,jI r0_11.Near,jI r0_11.Match,.d (.sl 4 (List.map e65 r0_11_1.Hanks)),.d (.sl 3 (List.map e67 r0_11_1.Horses)),jI r0_11_1.Dark,jI r0_11_1.Near,jI r0_11_1.Match]),(5,.row 67 3 (List.map e67 l1)),(1,.row 65 4 (List.map e65 l)),(25,.row 65 4 (List.map e65 r0_Hanks8)),(26,.row 67 3 (List.map e67 r0_Horses8)),(22,.row 65 4 (List.map e65 r0_Hanks7)),(23,.row 67 3 (List.map e67 r0_Horses7)),(19,.row 65 4 (List.map e65 r0_Hanks6)),(20,.row 67 3 (List.map e67 r0_Horses6)),(16,.row 65 4 (List.map e65 r0_Hanks5)),(17,.row 67 3 (List.map e67 r0_Horses5)),(14,.row 67 3 (List.map e67 r0_Horses4)),(11,.row 67 3 (List.map e67 r0_Horses3)),(8,.row 67 3 (List.map e67 r0_Horses2)),(4,.row 65 4 (List.map e65 r0_Hanks1)),(2,.row 67 3 (List.map e67 r0_Horses))] 28 0) ?_
 refine r_iaAS trivial rfl rfl rfl (by decide) (by decide) ?_
 refine r_faddrA trivial rfl ?_
 refine r_loadAV trivial rfl rfl rfl ?_
 obtain ⟨r0_3,hx_29,h⟩:=bsome h
 refine r_call trivial rfl (k24 21 _ hx_29) rfl rfl ?_
 obtain ⟨p3,hv_30,h⟩:=bsome h
 refine r_iaO trivial rfl rfl rfl (ixL_ok hv_30).1 (ix_lt (ixL_ok hv_30).2) rfl ?_
 refine aX 1 (sT [(1,.asl 27 11),(117,.agg [jI r0_3.Low,jI r0_3.High]),(119,.eptr 16 (List.map e65 r0_Hanks5).length (0:Int).toNat 2)] [(13,.row 65 4 (List.map e65 (setL r0_Hanks4 0 (HairHank.mk p2.Weight r0_2)))),(10,.row 65 4 (List.map e65 (setL r0_Hanks3 0 (HairHank.mk r0_1 p1.Shade)))),(7,.row 65 4 (List.map e65 (setL r0_Hanks2 0 (HairHank.mk r0 p.Shade)))),(27,.arr 61 [.own 1 (List.map e65 l).length,.own 2 (List.map e67 r0_Horses).length,jI r0_Dark,jI r0_Near,jI r0_Match,.own 4 (List.map e65 r0_Hanks1).length,.own 5 (List.map e67 l1).length,jI r0_Dark1,jI r0_Near1,jI r0_Match1,.own 7 (List.map e65 (setL r0_Hanks2 0 (HairHank.mk r0 p.Shade))).length,.own 8 (List.map e67 r0_Horses2).length,jI r0_Dark2,jI r0_Near2,jI r0_Match2,.own 10 (List.map e65 (setL r0_Hanks3 0 (HairHank.mk r0_1 p1.Shade))).length,.own 11 (List.map e67 r0_Horses3).length,jI r0_Dark3,jI r0_Near3,jI r0_Match3,.own 13 (List.map e65 (setL r0_Hanks4 0 (HairHank.mk p2.Weight r0_2))).length,.own 14 (List.map e67 r0_Horses4).length,jI r0_Dark4,jI r0_Near4,jI r0_Match4,.own 16 (List.map e65 r0_Hanks5).length,.own 17 (List.map e67 r0_Horses5).length,jI r0_Dark5,jI r0_Near5,jI r0_Match5,.own 19 (List.map e65 r0_Hanks6).length,.own 20 (List.map e67 r0_Horses6).length,jI r0_Dark6,jI r0_Near6,jI r0_Match6,.own 22 (List.map e65 r0_Hanks7).length,.own 23 (List.map e67 r0_Horses7).length,jI r0_Dark7,jI r0_Near7,jI r0_Match7,.own 25 (List.map e65 r0_Hanks8).length,.own 26 (List.map e67 r0_Horses8).length,jI r0_Dark8,jI r0_Near8,jI r0_Match8,.d (.sl 4 (List.map e65 r0_11.Hanks)),.d (.sl 3 (List.map e67 r0_11.Horses)),jI r0_11.Dark,jI r0_11.Near,jI r0_11.Match,.d (.sl 4 (List.map e65 r0_11_1.Hanks)),.d (.sl 3 (List.map e67 r0_11_1.Horses)),jI r0_11_1.Dark,jI r0_11_1.Near,jI r0_11_1.Match]),(5,.row 67 3 (List.map e67 l1)),(1,.row 65 4 (List.map e65 l)),(25,.row 65 4 (List.map e65 r0_Hanks8)),(26,.row 67 3 (List.map e67 r0_Horses8)),(22,.row 65 4 (List.map e65 r0_Hanks7)),(23,.row 67 3 (List.map e67 r0_Horses7)),(19,.row 65 4 (List.map e65 r0_Hanks6)),(20,.row 67 3 (List.map e67 r0_Horses6)),(16,.row 65 4 (List.map e65 r0_Hanks5)),(17,.row 67 3 (List.map e67 r0_Horses5)),(14,.row 67 3 (List.map e67 r0_Horses4)),(11,.row 67 3 (List.map e67 r0_Horses3)),(8,.row 67 3 (List.map e67 r0_Horses2)),(4,.row 65 4 (List.map e65 r0_Hanks1)),(2,.row 67 3 (List.map e67 r0_Horses))] 28 0) ?_
 refine r_stE trivial rfl rfl rfl rfl (mapget (f:=e65) (ixL_ok hv_30).2) rfl rfl rfl (Nat.le_of_ble_eq_true rfl) (stz (f:=e65) (x:=(HairHank.mk p3.Weight r0_3)) rfl) ?_
 rw [lenset (f:=e65) (xs:=r0_Hanks5) (i:=0) (x:=(HairHank.mk p3.Weight r0_3))]
 refine Fi (sT [(1,.asl 27 11)] [(16,.row 65 4 (List.map e65 (setL r0_Hanks5 0 (HairHank.mk p3.Weight r0_3)))),(13,.row 65 4 (List.map e65 (setL r0_Hanks4 0 (HairHank.mk p2.Weight r0_2)))),(10,.row 65 4 (List.map e65 (setL r0_Hanks3 0 (HairHank.mk r0_1 p1.Shade)))),(7,.row 65 4 (List.map e65 (setL r0_Hanks2 0 (HairHank.mk r0 p.Shade)))),(27,.arr 61 [.own 1 (List.map e65 l).length,.own 2 (List.map e67 r0_Horses).length,jI r0_Dark,jI r0_Near,jI r0_Match,.own 4 (List.map e65 r0_Hanks1).length,.own 5 (List.map e67 l1).length,jI r0_Dark1,jI r0_Near1,jI r0_Match1,.own 7 (List.map e65 (setL r0_Hanks2 0 (HairHank.mk r0 p.Shade))).length,.own 8 (List.map e67 r0_Horses2).length,jI r0_Dark2,jI r0_Near2,jI r0_Match2,.own 10 (List.map e65 (setL r0_Hanks3 0 (HairHank.mk r0_1 p1.Shade))).length,.own 11 (List.map e67 r0_Horses3).length,jI r0_Dark3,jI r0_Near3,jI r0_Match3,.own 13 (List.map e65 (setL r0_Hanks4 0 (HairHank.mk p2.Weight r0_2))).length,.own 14 (List.map e67 r0_Horses4).length,jI r0_Dark4,jI r0_Near4,jI r0_Match4,.own 16 (List.map e65 (setL r0_Hanks5 0 (HairHank.mk p3.Weight r0_3))).length,.own 17 (List.map e67 r0_Horses5).length,jI r0_Dark5,jI r0_Near5,jI r0_Match5,.own 19 (List.map e65 r0_Hanks6).length,.own 20 (List.map e67 r0_Horses6).length,jI r0_Dark6,jI r0_Near6,jI r0_Match6,.own 22 (List.map e65 r0_Hanks7).length,.own 23 (List.map e67 r0_Horses7).length,jI r0_Dark7,jI r0_Near7,jI r0_Match7,.own 25 (List.map e65 r0_Hanks8).length,.own 26 (List.map e67 r0_Horses8).length,jI r0_Dark8,jI r0_Near8,jI r0_Match8,.d (.sl 4 (List.map e65 r0_11.Hanks)),.d (.sl 3 (List.map e67 r0_11.Horses)),jI r0_11.Dark,jI r0_11.Near,jI r0_11.Match,.d (.sl 4 (List.map e65 r0_11_1.Hanks)),.d (.sl 3 (List.map e67 r0_11_1.Horses)),jI r0_11_1.Dark,jI r0_11_1.Near,jI r0_11_1.Match]),(5,.row 67 3 (List.map e67 l1)),(1,.row 65 4 (List.map e65 l)),(25,.row 65 4 (List.map e65 r0_Hanks8)),(26,.row 67 3 (List.map e67 r0_Horses8)),(22,.row 65 4 (List.map e65 r0_Hanks7)),(23,.row 67 3 (List.map e67 r0_Horses7)),(19,.row 65 4 (List.map e65 r0_Hanks6)),(20,.row 67 3 (List.map e67 r0_Horses6)),(17,.row 67 3 (List.map e67 r0_Horses5)),(14,.row 67 3 (List.map e67 r0_Horses4)),(11,.row 67 3 (List.map e67 r0_Horses3)),(8,.row 67 3 (List.map e67 r0_Horses2)),(4,.row 65 4 (List.map e65 r0_Hanks1)),(2,.row 67 3 (List.map e67 r0_Horses))] 28 0) ?_
 refine hQ_28 _ ?_
 refine AW.srwK (fun Q_31 hQ_31=>?_)
 refine Au 1 (sT [(1,.asl 27 11),(120,.asl 27 11)] [(16,.row 65 4 (List.map e65 (setL r0_Hanks5 0 (HairHank.mk p3.Weight r0_3)))),(13,.row 65 4 (List.map e65 (setL r0_Hanks4 0 (HairHank.mk p2.Weight r0_2)))),(10,.row 65 4 (List.map e65 (setL r0_Hanks3 0 (HairHank.mk r0_1 p1.Shade)))),(7,.row 65 4 (List.map e65 (setL r0_Hanks2 0 (HairHank.mk r0 p.Shade)))),(27,.arr 61 [.own 1 (List.map e65 l).length,.own 2 (List.map e67 r0_Horses).length,jI r0_Dark,jI r0_Near,jI r0_Match,.own 4 (List.map e65 r0_Hanks1).length,.own 5 (List.map e67 l1).length,jI r0_Dark1,jI r0_Near1,jI r0_Match1,.own 7 (List.map e65 (setL r0_Hanks2 0 (HairHank.mk r0 p.Shade))).length,.own 8 (List.map e67 r0_Horses2).length,jI r0_Dark2,jI r0_Near2,jI r0_Match2,.own 10 (List.map e65 (setL r0_Hanks3 0 (HairHank.mk r0_1 p1.Shade))).length,.own 11 (List.map e67 r0_Horses3).length,jI r0_Dark3,jI r0_Near3,jI r0_Match3,.own 13 (List.map e65 (setL r0_Hanks4 0 (HairHank.mk p2.Weight r0_2))).length,.own 14 (List.map e67 r0_Horses4).length,jI r0_Dark4,jI r0_Near4,jI r0_Match4,.own 16 (List.map e65 (setL r0_Hanks5 0 (HairHank.mk p3.Weight r0_3))).length,.own 17 (List.map e67 r0_Horses5).length,jI r0_Dark5,jI r0_Near5,jI r0_Match5,.own 19 (List.map e65 r0_Hanks6).length,.own 20 (List.map e67 r0_Horses6).length,jI r0_Dark6,jI r0_Near6,jI r0_Match6,.own 22 (List.map e65 r0_Hanks7).length,.own 23 (List.map e67 r0_Horses7).length,jI r0_Dark7,jI r0_Near7,jI r0_Match7,.own 25 (List.map e65 r0_Hanks8).length,.own 26 (List.map e67 r0_Horses8).length,jI r0_Dark8,jI r0_Near8,jI r0_Match8,.d (.sl 4 (List.map e65 r0_11.Hanks)),.d (.sl 3 (List.map e67 r0_11.Horses)),jI r0_11.Dark,jI r0_11.Near,jI r0_11.Match,.d (.sl 4 (List.map e65 r0_11_1.Hanks)),.d (.sl 3 (List.map e67 r0_11_1.Horses)),jI r0_11_1.Dark,jI r0_11_1.Near,jI r0_11_1.Match]),(5,.row 67 3 (List.map e67 l1)),(1,.row 65 4 (List.map e65 l)),(25,.row 65 4 (List.map e65 r0_Hanks8)),(26,.row 67 3 (List.map e67 r0_Horses8)),(22,.row 65 4 (List.map e65 r0_Hanks7)),(23,.row 67 3 (List.map e67 r0_Horses7)),(19,.row 65 4 (List.map e65 r0_Hanks6)),(20,.row 67 3 (List.map e67 r0_Horses6)),(17,.row 67 3 (List.map e67 r0_Horses5)),(14,.row 67 3 (List.map e67 r0_Horses4)),(11,.row 67 3 (List.map e67 r0_Horses3)),(8,.row 67 3 (List.map e67 r0_Horses2)),(4,.row 65 4 (List.map e65 r0_Hanks1)),(2,.row 67 3 (List.map e67 r0_Horses))] 28 0) ?_
 refine RW.one fokW (r_iaAS trivial rfl rfl rfl (by decide) (by decide) (r_end ?_))
 refine RW.one fokW (r_faddrA trivial rfl (r_end ?_))
 refine RW.one fokW (r_loadAV trivial rfl rfl rfl (r_end ?_))
 obtain ⟨p4,hv_32,h⟩:=bsome h
 refine RW.one fokW (r_iaO trivial rfl rfl rfl (ixL_ok hv_32).1 (ix_lt (ixL_ok hv_32).2) rfl (r_end ?_))
 refine Au 1 (sT [(1,.asl 27 11),(125,.eptr 20 (List.map e67 r0_Horses6).length (0:Int).toNat 0)] [(16,.row 65 4 (List.map e65 (setL r0_Hanks5 0 (HairHank.mk p3.Weight r0_3)))),(13,.row 65 4 (List.map e65 (setL r0_Hanks4 0 (HairHank.mk p2.Weight r0_2)))),(10,.row 65 4 (List.map e65 (setL r0_Hanks3 0 (HairHank.mk r0_1 p1.Shade)))),(7,.row 65 4 (List.map e65 (setL r0_Hanks2 0 (HairHank.mk r0 p.Shade)))),(27,.arr 61 [.own 1 (List.map e65 l).length,.own 2 (List.map e67 r0_Horses).length,jI r0_Dark,jI r0_Near,jI r0_Match,.own 4 (List.map e65 r0_Hanks1).length,.own 5 (List.map e67 l1).length,jI r0_Dark1,jI r0_Near1,jI r0_Match1,.own 7 (List.map e65 (setL r0_Hanks2 0 (HairHank.mk r0 p.Shade))).length,.own 8 (List.map e67 r0_Horses2).length,jI r0_Dark2,jI r0_Near2,jI r0_Match2,.own 10 (List.map e65 (setL r0_Hanks3 0 (HairHank.mk r0_1 p1.Shade))).length,.own 11 (List.map e67 r0_Horses3).length,jI r0_Dark3,jI r0_Near3,jI r0_Match3,.own 13 (List.map e65 (setL r0_Hanks4 0 (HairHank.mk p2.Weight r0_2))).length,.own 14 (List.map e67 r0_Horses4).length,jI r0_Dark4,jI r0_Near4,jI r0_Match4,.own 16 (List.map e65 (setL r0_Hanks5 0 (HairHank.mk p3.Weight r0_3))).length,.own 17 (List.map e67 r0_Horses5).length,jI r0_Dark5,jI r0_Near5,jI r0_Match5,.own 19 (List.map e65 r0_Hanks6).length,.own 20 (List.map e67 r0_Horses6).length,jI r0_Dark6,jI r0_Near6,jI r0_Match6,.own 22 (List.map e65 r0_Hanks7).length,.own 23 (List.map e67 r0_Horses7).length,jI r0_Dark7,jI r0_Near7,jI r0_Match7,.own 25 (List.map e65 r0_Hanks8).length,.own 26 (List.map e67 r0_Horses8).length,jI r0_Dark8,jI r0_Near8,jI r0_Match8,.d (.sl 4 (List.map e65 r0_11.Hanks)),.d (.sl 3 (List.map e67 r0_11.Horses)),jI r0_11.Dark,jI r0_11.Near,jI r0_11.Match,.d (.sl 4 (List.map e65 r0_11_1.Hanks)),.d (.sl 3 (List.map e67 r0_11_1.Horses)),jI r0_11_1.Dark,jI r0_11_1.Near,jI r0_11_1.Match]),(5,.row 67 3 (List.map e67 l1)),(1,.row 65 4 (List.map e65 l)),(25,.row 65 4 (List.map e65 r0_Hanks8)),(26,.row 67 3 (List.map e67 r0_Horses8)),(22,.row 65 4 (List.map e65 r0_Hanks7)),(23,.row 67 3 (List.map e67 r0_Horses7)),(19,.row 65 4 (List.map e65 r0_Hanks6)),(20,.row 67 3 (List.map e67 r0_Horses6)),(17,.row 67 3 (List.map e67 r0_Horses5)),(14,.row 67 3 (List.map e67 r0_Horses4)),(11,.row 67 3 (List.map e67 r0_Horses3)),(8,.row 67 3 (List.map e67 r0_Horses2)),(4,.row 65 4 (List.map e65 r0_Hanks1)),(2,.row 67 3 (List.map e67 r0_Horses))] 28 0) ?_
 refine RW.one fokW (r_stE trivial rfl rfl rfl rfl (mapget (f:=e67) (ixL_ok hv_32).2) rfl rfl rfl (Nat.le_of_ble_eq_true rfl) (stz (f:=e67) (x:=(HairHorse.mk 0 p4.Tail p4.Shade)) rfl) (r_end ?_))
 rw [lenset (f:=e67) (xs:=r0_Horses6) (i:=0) (x:=(HairHorse.mk 0 p4.Tail p4.Shade))]
 refine RW.nil (hQ_31 _ ?_)
 refine AW.srwK (fun Q_33 hQ_33=>?_)
 refine Au 1 (sT [(1,.asl 27 11),(126,.asl 27 11)] [(20,.row 67 3 (List.map e67 (setL r0_Horses6 0 (HairHorse.mk 0 p4.Tail p4.Shade)))),(16,.row 65 4 (List.map e65 (setL r0_Hanks5 0 (HairHank.mk p3.Weight r0_3)))),(13,.row 65 4 (List.map e65 (setL r0_Hanks4 0 (HairHank.mk p2.Weight r0_2)))),(10,.row 65 4 (List.map e65 (setL r0_Hanks3 0 (HairHank.mk r0_1 p1.Shade)))),(7,.row 65 4 (List.map e65 (setL r0_Hanks2 0 (HairHank.mk r0 p.Shade)))),(27,.arr 61 [.own 1 (List.map e65 l).length,.own 2 (List.map e67 r0_Horses).length,jI r0_Dark,jI r0_Near,jI r0_Match,.own 4 (List.map e65 r0_Hanks1).length,.own 5 (List.map e67 l1).length,jI r0_Dark1,jI r0_Near1,jI r0_Match1,.own 7 (List.map e65 (setL r0_Hanks2 0 (HairHank.mk r0 p.Shade))).length,.own 8 (List.map e67 r0_Horses2).length,jI r0_Dark2,jI r0_Near2,jI r0_Match2,.own 10 (List.map e65 (setL r0_Hanks3 0 (HairHank.mk r0_1 p1.Shade))).length,.own 11 (List.map e67 r0_Horses3).length,jI r0_Dark3,jI r0_Near3,jI r0_Match3,.own 13 (List.map e65 (setL r0_Hanks4 0 (HairHank.mk p2.Weight r0_2))).length,.own 14 (List.map e67 r0_Horses4).length,jI r0_Dark4,jI r0_Near4,jI r0_Match4,.own 16 (List.map e65 (setL r0_Hanks5 0 (HairHank.mk p3.Weight r0_3))).length,.own 17 (List.map e67 r0_Horses5).length,jI r0_Dark5,jI r0_Near5,jI r0_Match5,.own 19 (List.map e65 r0_Hanks6).length,.own 20 (List.map e67 (setL r0_Horses6 0 (HairHorse.mk 0 p4.Tail p4.Shade))).length,jI r0_Dark6,jI r0_Near6,jI r0_Match6,.own 22 (List.map e65 r0_Hanks7).length,.own 23 (List.map e67 r0_Horses7).length,jI r0_Dark7,jI r0_Near7,jI r0_Match7,.own 25 (List.map e65 r0_Hanks8).length,.own 26 (List.map e67 r0_Horses8).length,jI r0_Dark8,jI r0_Near8,jI r0_Match8,.d (.sl 4 (List.map e65 r0_11.Hanks)),.d (.sl 3 (List.map e67 r0_11.Horses)),jI r0_11.Dark,jI r0_11.Near,jI r0_11.Match,.d (.sl 4 (List.map e65 r0_11_1.Hanks)),.d (.sl 3 (List.map e67 r0_11_1.Horses)),jI r0_11_1.Dark,jI r0_11_1.Near,jI r0_11_1.Match]),(5,.row 67 3 (List.map e67 l1)),(1,.row 65 4 (List.map e65 l)),(25,.row 65 4 (List.map e65 r0_Hanks8)),(26,.row 67 3 (List.map e67 r0_Horses8)),(22,.row 65 4 (List.map e65 r0_Hanks7)),(23,.row 67 3 (List.map e67 r0_Horses7)),(19,.row 65 4 (List.map e65 r0_Hanks6)),(17,.row 67 3 (List.map e67 r0_Horses5)),(14,.row 67 3 (List.map e67 r0_Horses4)),(11,.row 67 3 (List.map e67 r0_Horses3)),(8,.row 67 3 (List.map e67 r0_Horses2)),(4,.row 65 4 (List.map e65 r0_Hanks1)),(2,.row 67 3 (List.map e67 r0_Horses))] 28 0) ?_
 refine RW.one fokW (r_iaAS trivial rfl rfl rfl (by decide) (by decide) (r_end ?_))
 refine RW.one fokW (r_faddrA trivial rfl (r_end ?_))
 refine RW.one fokW (r_loadAV trivial rfl rfl rfl (r_end ?_))
 obtain ⟨p5,hv_34,h⟩:=bsome h
 refine RW.one fokW (r_iaO trivial rfl rfl rfl (ixL_ok hv_34).1 (ix_lt (ixL_ok hv_34).2) rfl (r_end ?_))
 refine Au 1 (sT [(1,.asl 27 11),(131,.eptr 23 (List.map e67 r0_Horses7).length (1:Int).toNat 1)] [(20,.row 67 3 (List.map e67 (setL r0_Horses6 0 (HairHorse.mk 0 p4.Tail p4.Shade)))),(16,.row 65 4 (List.map e65 (setL r0_Hanks5 0 (HairHank.mk p3.Weight r0_3)))),(13,.row 65 4 (List.map e65 (setL r0_Hanks4 0 (HairHank.mk p2.Weight r0_2)))),(10,.row 65 4 (List.map e65 (setL r0_Hanks3 0 (HairHank.mk r0_1 p1.Shade)))),(7,.row 65 4 (List.map e65 (setL r0_Hanks2 0 (HairHank.mk r0 p.Shade)))),(27,.arr 61 [.own 1 (List.map e65 l).length,.own 2 (List.map e67 r0_Horses).length,jI r0_Dark,jI r0_Near,jI r0_Match,.own 4 (List.map e65 r0_Hanks1).length,.own 5 (List.map e67 l1).length,jI r0_Dark1,jI r0_Near1,jI r0_Match1,.own 7 (List.map e65 (setL r0_Hanks2 0 (HairHank.mk r0 p.Shade))).length,.own 8 (List.map e67 r0_Horses2).length,jI r0_Dark2,jI r0_Near2,jI r0_Match2,.own 10 (List.map e65 (setL r0_Hanks3 0 (HairHank.mk r0_1 p1.Shade))).length,.own 11 (List.map e67 r0_Horses3).length,jI r0_Dark3,jI r0_Near3,jI r0_Match3,.own 13 (List.map e65 (setL r0_Hanks4 0 (HairHank.mk p2.Weight r0_2))).length,.own 14 (List.map e67 r0_Horses4).length,jI r0_Dark4,jI r0_Near4,jI r0_Match4,.own 16 (List.map e65 (setL r0_Hanks5 0 (HairHank.mk p3.Weight r0_3))).length,.own 17 (List.map e67 r0_Horses5).length,jI r0_Dark5,jI r0_Near5,jI r0_Match5,.own 19 (List.map e65 r0_Hanks6).length,.own 20 (List.map e67 (setL r0_Horses6 0 (HairHorse.mk 0 p4.Tail p4.Shade))).length,jI r0_Dark6,jI r0_Near6,jI r0_Match6,.own 22 (List.map e65 r0_Hanks7).length,.own 23 (List.map e67 r0_Horses7).length,jI r0_Dark7,jI r0_Near7,jI r0_Match7,.own 25 (List.map e65 r0_Hanks8).length,.own 26 (List.map e67 r0_Horses8).length,jI r0_Dark8,jI r0_Near8,jI r0_Match8,.d (.sl 4 (List.map e65 r0_11.Hanks)),.d (.sl 3 (List.map e67 r0_11.Horses)),jI r0_11.Dark,jI r0_11.Near,jI r0_11.Match,.d (.sl 4 (List.map e65 r0_11_1.Hanks)),.d (.sl 3 (List.map e67 r0_11_1.Horses)),jI r0_11_1.Dark,jI r0_11_1.Near,jI r0_11_1.Match]),(5,.row 67 3 (List.map e67 l1)),(1,.row 65 4 (List.map e65 l)),(25,.row 65 4 (List.map e65 r0_Hanks8)),(26,.row 67 3 (List.map e67 r0_Horses8)),(22,.row 65 4 (List.map e65 r0_Hanks7)),(23,.row 67 3 (List.map e67 r0_Horses7)),(19,.row 65 4 (List.map e65 r0_Hanks6)),(17,.row 67 3 (List.map e67 r0_Horses5)),(14,.row 67 3 (List.map e67 r0_Horses4)),(11,.row 67 3 (List.map e67 r0_Horses3)),(8,.row 67 3 (List.map e67 r0_Horses2)),(4,.row 65 4 (List.map e65 r0_Hanks1)),(2,.row 67 3 (List.map e67 r0_Horses))] 28 0) ?_
 refine RW.one fokW (r_stE trivial rfl rfl rfl rfl (mapget (f:=e67) (ixL_ok hv_34).2) rfl rfl rfl (Nat.le_of_ble_eq_true rfl) (stz (f:=e67) (x:=(HairHorse.mk p5.Mane 31 p5.Shade)) rfl) (r_end ?_))
 rw [lenset (f:=e67) (xs:=r0_Horses7) (i:=1) (x:=(HairHorse.mk p5.Mane 31 p5.Shade))]
 refine RW.nil (hQ_33 _ ?_)
 refine AW.srwK (fun Q_35 hQ_35=>?_)
 refine Au 1 (sT [(1,.asl 27 11),(132,.asl 27 11)] [(23,.row 67 3 (List.map e67 (setL r0_Horses7 1 (HairHorse.mk p5.Mane 31 p5.Shade)))),(20,.row 67 3 (List.map e67 (setL r0_Horses6 0 (HairHorse.mk 0 p4.Tail p4.Shade)))),(16,.row 65 4 (List.map e65 (setL r0_Hanks5 0 (HairHank.mk p3.Weight r0_3)))),(13,.row 65 4 (List.map e65 (setL r0_Hanks4 0 (HairHank.mk p2.Weight r0_2)))),(10,.row 65 4 (List.map e65 (setL r0_Hanks3 0 (HairHank.mk r0_1 p1.Shade)))),(7,.row 65 4 (List.map e65 (setL r0_Hanks2 0 (HairHank.mk r0 p.Shade)))),(27,.arr 61 [.own 1 (List.map e65 l).length,.own 2 (List.map e67 r0_Horses).length,jI r0_Dark,jI r0_Near,jI r0_Match,.own 4 (List.map e65 r0_Hanks1).length,.own 5 (List.map e67 l1).length,jI r0_Dark1,jI r0_Near1,jI r0_Match1,.own 7 (List.map e65 (setL r0_Hanks2 0 (HairHank.mk r0 p.Shade))).length,.own 8 (List.map e67 r0_Horses2).length,jI r0_Dark2,jI r0_Near2,jI r0_Match2,.own 10 (List.map e65 (setL r0_Hanks3 0 (HairHank.mk r0_1 p1.Shade))).length,.own 11 (List.map e67 r0_Horses3).length,jI r0_Dark3,jI r0_Near3,jI r0_Match3,.own 13 (List.map e65 (setL r0_Hanks4 0 (HairHank.mk p2.Weight r0_2))).length,.own 14 (List.map e67 r0_Horses4).length,jI r0_Dark4,jI r0_Near4,jI r0_Match4,.own 16 (List.map e65 (setL r0_Hanks5 0 (HairHank.mk p3.Weight r0_3))).length,.own 17 (List.map e67 r0_Horses5).length,jI r0_Dark5,jI r0_Near5,jI r0_Match5,.own 19 (List.map e65 r0_Hanks6).length,.own 20 (List.map e67 (setL r0_Horses6 0 (HairHorse.mk 0 p4.Tail p4.Shade))).length,jI r0_Dark6,jI r0_Near6,jI r0_Match6,.own 22 (List.map e65 r0_Hanks7).length,.own 23 (List.map e67 (setL r0_Horses7 1 (HairHorse.mk p5.Mane 31 p5.Shade))).length,jI r0_Dark7,jI r0_Near7,jI r0_Match7,.own 25 (List.map e65 r0_Hanks8).length,.own 26 (List.map e67 r0_Horses8).length,jI r0_Dark8,jI r0_Near8,jI r0_Match8,.d (.sl 4 (List.map e65 r0_11.Hanks)),.d (.sl 3 (List.map e67 r0_11.Horses)),jI r0_11.Dark,jI r0_11.Near,jI r0_11.Match,.d (.sl 4 (List.map e65 r0_11_1.Hanks)),.d (.sl 3 (List.map e67 r0_11_1.Horses)),jI r0_11_1.Dark,jI r0_11_1.Near,jI r0_11_1.Match]),(5,.row 67 3 (List.map e67 l1)),(1,.row 65 4 (List.map e65 l)),(25,.row 65 4 (List.map e65 r0_Hanks8)),(26,.row 67 3 (List.map e67 r0_Horses8)),(22,.row 65 4 (List.map e65 r0_Hanks7)),(19,.row 65 4 (List.map e65 r0_Hanks6)),(17,.row 67 3 (List.map e67 r0_Horses5)),(14,.row 67 3 (List.map e67 r0_Horses4)),(11,.row 67 3 (List.map e67 r0_Horses3)),(8,.row 67 3 (List.map e67 r0_Horses2)),(4,.row 65 4 (List.map e65 r0_Hanks1)),(2,.row 67 3 (List.map e67 r0_Horses))] 28 0) ?_
 refine RW.one fokW (r_iaAS trivial rfl rfl rfl (by decide) (by decide) (r_end ?_))
 refine RW.one fokW (r_faddrA trivial rfl (r_end ?_))
 refine RW.one fokW (r_loadAV trivial rfl rfl rfl (r_end ?_))
 obtain ⟨p6,hv_36,h⟩:=bsome h
 refine RW.one fokW (r_iaO trivial rfl rfl rfl (ixL_ok hv_36).1 (ix_lt (ixL_ok hv_36).2) rfl (r_end ?_))
 refine Au 1 (sT [(1,.asl 27 11),(137,.eptr 26 (List.map e67 r0_Horses8).length (1:Int).toNat 2)] [(23,.row 67 3 (List.map e67 (setL r0_Horses7 1 (HairHorse.mk p5.Mane 31 p5.Shade)))),(20,.row 67 3 (List.map e67 (setL r0_Horses6 0 (HairHorse.mk 0 p4.Tail p4.Shade)))),(16,.row 65 4 (List.map e65 (setL r0_Hanks5 0 (HairHank.mk p3.Weight r0_3)))),(13,.row 65 4 (List.map e65 (setL r0_Hanks4 0 (HairHank.mk p2.Weight r0_2)))),(10,.row 65 4 (List.map e65 (setL r0_Hanks3 0 (HairHank.mk r0_1 p1.Shade)))),(7,.row 65 4 (List.map e65 (setL r0_Hanks2 0 (HairHank.mk r0 p.Shade)))),(27,.arr 61 [.own 1 (List.map e65 l).length,.own 2 (List.map e67 r0_Horses).length,jI r0_Dark,jI r0_Near,jI r0_Match,.own 4 (List.map e65 r0_Hanks1).length,.own 5 (List.map e67 l1).length,jI r0_Dark1,jI r0_Near1,jI r0_Match1,.own 7 (List.map e65 (setL r0_Hanks2 0 (HairHank.mk r0 p.Shade))).length,.own 8 (List.map e67 r0_Horses2).length,jI r0_Dark2,jI r0_Near2,jI r0_Match2,.own 10 (List.map e65 (setL r0_Hanks3 0 (HairHank.mk r0_1 p1.Shade))).length,.own 11 (List.map e67 r0_Horses3).length,jI r0_Dark3,jI r0_Near3,jI r0_Match3,.own 13 (List.map e65 (setL r0_Hanks4 0 (HairHank.mk p2.Weight r0_2))).length,.own 14 (List.map e67 r0_Horses4).length,jI r0_Dark4,jI r0_Near4,jI r0_Match4,.own 16 (List.map e65 (setL r0_Hanks5 0 (HairHank.mk p3.Weight r0_3))).length,.own 17 (List.map e67 r0_Horses5).length,jI r0_Dark5,jI r0_Near5,jI r0_Match5,.own 19 (List.map e65 r0_Hanks6).length,.own 20 (List.map e67 (setL r0_Horses6 0 (HairHorse.mk 0 p4.Tail p4.Shade))).length,jI r0_Dark6,jI r0_Near6,jI r0_Match6,.own 22 (List.map e65 r0_Hanks7).length,.own 23 (List.map e67 (setL r0_Horses7 1 (HairHorse.mk p5.Mane 31 p5.Shade))).length,jI r0_Dark7,jI r0_Near7,jI r0_Match7,.own 25 (List.map e65 r0_Hanks8).length,.own 26 (List.map e67 r0_Horses8).length,jI r0_Dark8,jI r0_Near8,jI r0_Match8,.d (.sl 4 (List.map e65 r0_11.Hanks)),.d (.sl 3 (List.map e67 r0_11.Horses)),jI r0_11.Dark,jI r0_11.Near,jI r0_11.Match,.d (.sl 4 (List.map e65 r0_11_1.Hanks)),.d (.sl 3 (List.map e67 r0_11_1.Horses)),jI r0_11_1.Dark,jI r0_11_1.Near,jI r0_11_1.Match]),(5,.row 67 3 (List.map e67 l1)),(1,.row 65 4 (List.map e65 l)),(25,.row 65 4 (List.map e65 r0_Hanks8)),(26,.row 67 3 (List.map e67 r0_Horses8)),(22,.row 65 4 (List.map e65 r0_Hanks7)),(19,.row 65 4 (List.map e65 r0_Hanks6)),(17,.row 67 3 (List.map e67 r0_Horses5)),(14,.row 67 3 (List.map e67 r0_Horses4)),(11,.row 67 3 (List.map e67 r0_Horses3)),(8,.row 67 3 (List.map e67 r0_Horses2)),(4,.row 65 4 (List.map e65 r0_Hanks1)),(2,.row 67 3 (List.map e67 r0_Horses))] 28 0) ?_
 refine RW.one fokW (r_stE trivial rfl rfl rfl rfl (mapget (f:=e67) (ixL_ok hv_36).2) rfl rfl rfl (Nat.le_of_ble_eq_true rfl) (stz (f:=e67) (x:=(HairHorse.mk p6.Mane p6.Tail 26)) rfl) (r_end ?_))
 rw [lenset (f:=e67) (xs:=r0_Horses8) (i:=1) (x:=(HairHorse.mk p6.Mane p6.Tail 26))]
 refine RW.nil (hQ_35 _ ?_)
 refine AW.srwK (fun Q_37 hQ_37=>?_)
 refine Au 1 (sT [(1,.asl 27 11),(138,.asl 27 11)] [(26,.row 67 3 (List.map e67 (setL r0_Horses8 1 (HairHorse.mk p6.Mane p6.Tail 26)))),(23,.row 67 3 (List.map e67 (setL r0_Horses7 1 (HairHorse.mk p5.Mane 31 p5.Shade)))),(20,.row 67 3 (List.map e67 (setL r0_Horses6 0 (HairHorse.mk 0 p4.Tail p4.Shade)))),(16,.row 65 4 (List.map e65 (setL r0_Hanks5 0 (HairHank.mk p3.Weight r0_3)))),(13,.row 65 4 (List.map e65 (setL r0_Hanks4 0 (HairHank.mk p2.Weight r0_2)))),(10,.row 65 4 (List.map e65 (setL r0_Hanks3 0 (HairHank.mk r0_1 p1.Shade)))),(7,.row 65 4 (List.map e65 (setL r0_Hanks2 0 (HairHank.mk r0 p.Shade)))),(27,.arr 61 [.own 1 (List.map e65 l).length,.own 2 (List.map e67 r0_Horses).length,jI r0_Dark,jI r0_Near,jI r0_Match,.own 4 (List.map e65 r0_Hanks1).length,.own 5 (List.map e67 l1).length,jI r0_Dark1,jI r0_Near1,jI r0_Match1,.own 7 (List.map e65 (setL r0_Hanks2 0 (HairHank.mk r0 p.Shade))).length,.own 8 (List.map e67 r0_Horses2).length,jI r0_Dark2,jI r0_Near2,jI r0_Match2,.own 10 (List.map e65 (setL r0_Hanks3 0 (HairHank.mk r0_1 p1.Shade))).length,.own 11 (List.map e67 r0_Horses3).length,jI r0_Dark3,jI r0_Near3,jI r0_Match3,.own 13 (List.map e65 (setL r0_Hanks4 0 (HairHank.mk p2.Weight r0_2))).length,.own 14 (List.map e67 r0_Horses4).length,jI r0_Dark4,jI r0_Near4,jI r0_Match4,.own 16 (List.map e65 (setL r0_Hanks5 0 (HairHank.mk p3.Weight r0_3))).length,.own 17 (List.map e67 r0_Horses5).length,jI r0_Dark5,jI r0_Near5,jI r0_Match5,.own 19 (List.map e65 r0_Hanks6).length,.own 20 (List.map e67 (setL r0_Horses6 0 (HairHorse.mk 0 p4.Tail p4.Shade))).length,jI r0_Dark6,jI r0_Near6,jI r0_Match6,.own 22 (List.map e65 r0_Hanks7).length,.own 23 (List.map e67 (setL r0_Horses7 1 (HairHorse.mk p5.Mane 31 p5.Shade))).length,jI r0_Dark7,jI r0_Near7,jI r0_Match7,.own 25 (List.map e65 r0_Hanks8).length,.own 26 (List.map e67 (setL r0_Horses8 1 (HairHorse.mk p6.Mane p6.Tail 26))).length,jI r0_Dark8,jI r0_Near8,jI r0_Match8,.d (.sl 4 (List.map e65 r0_11.Hanks)),.d (.sl 3 (List.map e67 r0_11.Horses)),jI r0_11.Dark,jI r0_11.Near,jI r0_11.Match,.d (.sl 4 (List.map e65 r0_11_1.Hanks)),.d (.sl 3 (List.map e67 r0_11_1.Horses)),jI r0_11_1.Dark,jI r0_11_1.Near,jI r0_11_1.Match]),(5,.row 67 3 (List.map e67 l1)),(1,.row 65 4 (List.map e65 l)),(25,.row 65 4 (List.map e65 r0_Hanks8)),(22,.row 65 4 (List.map e65 r0_Hanks7)),(19,.row 65 4 (List.map e65 r0_Hanks6)),(17,.row 67 3 (List.map e67 r0_Horses5)),(14,.row 67 3 (List.map e67 r0_Horses4)),(11,.row 67 3 (List.map e67 r0_Horses3)),(8,.row 67 3 (List.map e67 r0_Horses2)),(4,.row 65 4 (List.map e65 r0_Hanks1)),(2,.row 67 3 (List.map e67 r0_Horses))] 28 0) ?_
 refine RW.one fokW (r_iaAS trivial rfl rfl rfl (by decide) (by decide) (r_end ?_))
 refine RW.one fokW (r_faddrA trivial rfl (r_end ?_))
 refine RW.one fokW (r_storeA trivial rfl rfl rfl rfl rfl rfl (r_end ?_))
 refine RW.nil (hQ_37 _ ?_)
 refine AW.srwK (fun Q_38 hQ_38=>?_)
 refine Au 1 (sT [(1,.asl 27 11),(141,.asl 27 11)] [(27,.arr 61 [.own 1 (List.map e65 l).length,.own 2 (List.map e67 r0_Horses).length,jI r0_Dark,jI r0_Near,jI r0_Match,.own 4 (List.map e65 r0_Hanks1).length,.own 5 (List.map e67 l1).length,jI r0_Dark1,jI r0_Near1,jI r0_Match1,.own 7 (List.map e65 (setL r0_Hanks2 0 (HairHank.mk r0 p.Shade))).length,.own 8 (List.map e67 r0_Horses2).length,jI r0_Dark2,jI r0_Near2,jI r0_Match2,.own 10 (List.map e65 (setL r0_Hanks3 0 (HairHank.mk r0_1 p1.Shade))).length,.own 11 (List.map e67 r0_Horses3).length,jI r0_Dark3,jI r0_Near3,jI r0_Match3,.own 13 (List.map e65 (setL r0_Hanks4 0 (HairHank.mk p2.Weight r0_2))).length,.own 14 (List.map e67 r0_Horses4).length,jI r0_Dark4,jI r0_Near4,jI r0_Match4,.own 16 (List.map e65 (setL r0_Hanks5 0 (HairHank.mk p3.Weight r0_3))).length,.own 17 (List.map e67 r0_Horses5).length,jI r0_Dark5,jI r0_Near5,jI r0_Match5,.own 19 (List.map e65 r0_Hanks6).length,.own 20 (List.map e67 (setL r0_Horses6 0 (HairHorse.mk 0 p4.Tail p4.Shade))).length,jI r0_Dark6,jI r0_Near6,jI r0_Match6,.own 22 (List.map e65 r0_Hanks7).length,.own 23 (List.map e67 (setL r0_Horses7 1 (HairHorse.mk p5.Mane 31 p5.Shade))).length,jI r0_Dark7,jI r0_Near7,jI r0_Match7,.own 25 (List.map e65 r0_Hanks8).length,.own 26 (List.map e67 (setL r0_Horses8 1 (HairHorse.mk p6.Mane p6.Tail 26))).length,jI r0_Dark8,jI r0_Near8,jI r0_Match8,.d (.sl 4 (List.map e65 r0_11.Hanks)),.d (.sl 3 (List.map e67 r0_11.Horses)),jI 5,jI r0_11.Near,jI r0_11.Match,.d (.sl 4 (List.map e65 r0_11_1.Hanks)),.d (.sl 3 (List.map e67 r0_11_1.Horses)),jI r0_11_1.Dark,jI r0_11_1.Near,jI r0_11_1.Match]),(26,.row 67 3 (List.map e67 (setL r0_Horses8 1 (HairHorse.mk p6.Mane p6.Tail 26)))),(23,.row 67 3 (List.map e67 (setL r0_Horses7 1 (HairHorse.mk p5.Mane 31 p5.Shade)))),(20,.row 67 3 (List.map e67 (setL r0_Horses6 0 (HairHorse.mk 0 p4.Tail p4.Shade)))),(16,.row 65 4 (List.map e65 (setL r0_Hanks5 0 (HairHank.mk p3.Weight r0_3)))),(13,.row 65 4 (List.map e65 (setL r0_Hanks4 0 (HairHank.mk p2.Weight r0_2)))),(10,.row 65 4 (List.map e65 (setL r0_Hanks3 0 (HairHank.mk r0_1 p1.Shade)))),(7,.row 65 4 (List.map e65 (setL r0_Hanks2 0 (HairHank.mk r0 p.Shade)))),(5,.row 67 3 (List.map e67 l1)),(1,.row 65 4 (List.map e65 l)),(25,.row 65 4 (List.map e65 r0_Hanks8)),(22,.row 65 4 (List.map e65 r0_Hanks7)),(19,.row 65 4 (List.map e65 r0_Hanks6)),(17,.row 67 3 (List.map e67 r0_Horses5)),(14,.row 67 3 (List.map e67 r0_Horses4)),(11,.row 67 3 (List.map e67 r0_Horses3)),(8,.row 67 3 (List.map e67 r0_Horses2)),(4,.row 65 4 (List.map e65 r0_Hanks1)),(2,.row 67 3 (List.map e67 r0_Horses))] 28 0) ?_
 refine RW.one fokW (r_iaAS trivial rfl rfl rfl (by decide) (by decide) (r_end ?_))
 refine RW.one fokW (r_faddrA trivial rfl (r_end ?_))
 refine RW.one fokW (r_storeA trivial rfl rfl rfl rfl rfl rfl (r_end ?_))
 refine RW.nil (hQ_38 _ ?_)
 refine AW.seqK (fun K_39 hK_39=>?_)
 refine Sa (sT [(1,.asl 27 11),(2,jI 0)] [(27,.arr 61 [.own 1 (List.map e65 l).length,.own 2 (List.map e67 r0_Horses).length,jI r0_Dark,jI r0_Near,jI r0_Match,.own 4 (List.map e65 r0_Hanks1).length,.own 5 (List.map e67 l1).length,jI r0_Dark1,jI r0_Near1,jI r0_Match1,.own 7 (List.map e65 (setL r0_Hanks2 0 (HairHank.mk r0 p.Shade))).length,.own 8 (List.map e67 r0_Horses2).length,jI r0_Dark2,jI r0_Near2,jI r0_Match2,.own 10 (List.map e65 (setL r0_Hanks3 0 (HairHank.mk r0_1 p1.Shade))).length,.own 11 (List.map e67 r0_Horses3).length,jI r0_Dark3,jI r0_Near3,jI r0_Match3,.own 13 (List.map e65 (setL r0_Hanks4 0 (HairHank.mk p2.Weight r0_2))).length,.own 14 (List.map e67 r0_Horses4).length,jI r0_Dark4,jI r0_Near4,jI r0_Match4,.own 16 (List.map e65 (setL r0_Hanks5 0 (HairHank.mk p3.Weight r0_3))).length,.own 17 (List.map e67 r0_Horses5).length,jI r0_Dark5,jI r0_Near5,jI r0_Match5,.own 19 (List.map e65 r0_Hanks6).length,.own 20 (List.map e67 (setL r0_Horses6 0 (HairHorse.mk 0 p4.Tail p4.Shade))).length,jI r0_Dark6,jI r0_Near6,jI r0_Match6,.own 22 (List.map e65 r0_Hanks7).length,.own 23 (List.map e67 (setL r0_Horses7 1 (HairHorse.mk p5.Mane 31 p5.Shade))).length,jI r0_Dark7,jI r0_Near7,jI r0_Match7,.own 25 (List.map e65 r0_Hanks8).length,.own 26 (List.map e67 (setL r0_Horses8 1 (HairHorse.mk p6.Mane p6.Tail 26))).length,jI r0_Dark8,jI r0_Near8,jI r0_Match8,.d (.sl 4 (List.map e65 r0_11.Hanks)),.d (.sl 3 (List.map e67 r0_11.Horses)),jI 5,jI r0_11.Near,jI r0_11.Match,.d (.sl 4 (List.map e65 r0_11_1.Hanks)),.d (.sl 3 (List.map e67 r0_11_1.Horses)),jI r0_11_1.Dark,jI r0_11_1.Near,jI 4]),(26,.row 67 3 (List.map e67 (setL r0_Horses8 1 (HairHorse.mk p6.Mane p6.Tail 26)))),(23,.row 67 3 (List.map e67 (setL r0_Horses7 1 (HairHorse.mk p5.Mane 31 p5.Shade)))),(20,.row 67 3 (List.map e67 (setL r0_Horses6 0 (HairHorse.mk 0 p4.Tail p4.Shade)))),(16,.row 65 4 (List.map e65 (setL r0_Hanks5 0 (HairHank.mk p3.Weight r0_3)))),(13,.row 65 4 (List.map e65 (setL r0_Hanks4 0 (HairHank.mk p2.Weight r0_2)))),(10,.row 65 4 (List.map e65 (setL r0_Hanks3 0 (HairHank.mk r0_1 p1.Shade)))),(7,.row 65 4 (List.map e65 (setL r0_Hanks2 0 (HairHank.mk r0 p.Shade)))),(5,.row 67 3 (List.map e67 l1)),(1,.row 65 4 (List.map e65 l)),(25,.row 65 4 (List.map e65 r0_Hanks8)),(22,.row 65 4 (List.map e65 r0_Hanks7)),(19,.row 65 4 (List.map e65 r0_Hanks6)),(17,.row 67 3 (List.map e67 r0_Horses5)),(14,.row 67 3 (List.map e67 r0_Horses4)),(11,.row 67 3 (List.map e67 r0_Horses3)),(8,.row 67 3 (List.map e67 r0_Horses2)),(4,.row 65 4 (List.map e65 r0_Hanks1)),(2,.row 67 3 (List.map e67 r0_Horses))] 28 0) ?_
 refine AW.block ?_
 obtain ⟨o,hv_40,h⟩:=bsome h
 refine AW.can (Can.fzHA 27 0 1 (n:=(List.map e65 l).length) (T:=65) (es:=4) (xs:=List.map e65 l) rfl (by kernel_rfl) (by kernel_rfl) rfl) ?_
 refine AW.can (Can.fzHA 27 1 2 (n:=(List.map e67 r0_Horses).length) (T:=67) (es:=3) (xs:=List.map e67 r0_Horses) rfl (by kernel_rfl) (by kernel_rfl) rfl) ?_
 refine AW.can (Can.fzHA 27 5 4 (n:=(List.map e65 r0_Hanks1).length) (T:=65) (es:=4) (xs:=List.map e65 r0_Hanks1) rfl (by kernel_rfl) (by kernel_rfl) rfl) ?_
 refine AW.can (Can.fzHA 27 6 5 (n:=(List.map e67 l1).length) (T:=67) (es:=3) (xs:=List.map e67 l1) rfl (by kernel_rfl) (by kernel_rfl) rfl) ?_
 refine AW.can (Can.fzHA 27 10 7 (n:=(List.map e65 (setL r0_Hanks2 0 (HairHank.mk r0 p.Shade))).length) (T:=65) (es:=4) (xs:=List.map e65 (setL r0_Hanks2 0 (HairHank.mk r0 p.Shade))) rfl (by kernel_rfl) (by kernel_rfl) rfl) ?_
 refine AW.can (Can.fzHA 27 11 8 (n:=(List.map e67 r0_Horses2).length) (T:=67) (es:=3) (xs:=List.map e67 r0_Horses2) rfl (by kernel_rfl) (by kernel_rfl) rfl) ?_
 refine AW.can (Can.fzHA 27 15 10 (n:=(List.map e65 (setL r0_Hanks3 0 (HairHank.mk r0_1 p1.Shade))).length) (T:=65) (es:=4) (xs:=List.map e65 (setL r0_Hanks3 0 (HairHank.mk r0_1 p1.Shade))) rfl (by kernel_rfl) (by kernel_rfl) rfl) ?_
 refine AW.can (Can.fzHA 27 16 11 (n:=(List.map e67 r0_Horses3).length) (T:=67) (es:=3) (xs:=List.map e67 r0_Horses3) rfl (by kernel_rfl) (by kernel_rfl) rfl) ?_
 refine AW.can (Can.fzHA 27 20 13 (n:=(List.map e65 (setL r0_Hanks4 0 (HairHank.mk p2.Weight r0_2))).length) (T:=65) (es:=4) (xs:=List.map e65 (setL r0_Hanks4 0 (HairHank.mk p2.Weight r0_2))) rfl (by kernel_rfl) (by kernel_rfl) rfl) ?_
 refine AW.can (Can.fzHA 27 21 14 (n:=(List.map e67 r0_Horses4).length) (T:=67) (es:=3) (xs:=List.map e67 r0_Horses4) rfl (by kernel_rfl) (by kernel_rfl) rfl) ?_
 refine AW.can (Can.fzHA 27 25 16 (n:=(List.map e65 (setL r0_Hanks5 0 (HairHank.mk p3.Weight r0_3))).length) (T:=65) (es:=4) (xs:=List.map e65 (setL r0_Hanks5 0 (HairHank.mk p3.Weight r0_3))) rfl (by kernel_rfl) (by kernel_rfl) rfl) ?_
 refine AW.can (Can.fzHA 27 26 17 (n:=(List.map e67 r0_Horses5).length) (T:=67) (es:=3) (xs:=List.map e67 r0_Horses5) rfl (by kernel_rfl) (by kernel_rfl) rfl) ?_
 refine AW.can (Can.fzHA 27 30 19 (n:=(List.map e65 r0_Hanks6).length) (T:=65) (es:=4) (xs:=List.map e65 r0_Hanks6) rfl (by kernel_rfl) (by kernel_rfl) rfl) ?_
 refine AW.can (Can.fzHA 27 31 20 (n:=(List.map e67 (setL r0_Horses6 0 (HairHorse.mk 0 p4.Tail p4.Shade))).length) (T:=67) (es:=3) (xs:=List.map e67 (setL r0_Horses6 0 (HairHorse.mk 0 p4.Tail p4.Shade))) rfl (by kernel_rfl) (by kernel_rfl) rfl) ?_
 refine AW.can (Can.fzHA 27 35 22 (n:=(List.map e65 r0_Hanks7).length) (T:=65) (es:=4) (xs:=List.map e65 r0_Hanks7) rfl (by kernel_rfl) (by kernel_rfl) rfl) ?_
 refine AW.can (Can.fzHA 27 36 23 (n:=(List.map e67 (setL r0_Horses7 1 (HairHorse.mk p5.Mane 31 p5.Shade))).length) (T:=67) (es:=3) (xs:=List.map e67 (setL r0_Horses7 1 (HairHorse.mk p5.Mane 31 p5.Shade))) rfl (by kernel_rfl) (by kernel_rfl) rfl) ?_
 refine AW.can (Can.fzHA 27 40 25 (n:=(List.map e65 r0_Hanks8).length) (T:=65) (es:=4) (xs:=List.map e65 r0_Hanks8) rfl (by kernel_rfl) (by kernel_rfl) rfl) ?_
 refine AW.can (Can.fzHA 27 41 26 (n:=(List.map e67 (setL r0_Horses8 1 (HairHorse.mk p6.Mane p6.Tail 26))).length) (T:=67) (es:=3) (xs:=List.map e67 (setL r0_Horses8 1 (HairHorse.mk p6.Mane p6.Tail 26))) rfl (by kernel_rfl) (by kernel_rfl) rfl) ?_
 refine AW.can (Can.fzAE 1 27 (n:=11) (T:=61) (es:=5) (xs:=List.map e61 o) (by kernel_rfl) (by cases hv_40;kernel_rfl) (by cases hv_40;rfl) (mlen (f:=e61) (fun _=>rfl))) ?_
 refine AW.kp (sT [(1,.d (.sl 5 (List.map e61 o))),(2,jI 0)] [] 28 0) (by kernel_rfl) ?_
 refine AW.sln (t:=1) rfl (fun hN_41=>?_)
 rw [List.length_map] at hN_41
 obtain ⟨out_41,hx_41,hk_41⟩:=bsomeC h
 refine AW.evCK (fun (A:Int) (_:Unit)=>(sT [(1,.d (.sl 5 (List.map e61 o))),(2,jI A)] [] 28 0)) g4_41 hx_41 (Can.kp (by kernel_rfl)) (fun A p7 s_41 hi_41 hl_41 hp_41 c_41 h hb_41 K_41 hK_41=>?_) (fun A s_41 hi_41 hl_41 hout=>?_)
 ·unfold g4_41 at h
  refine AW.seqK fun K_42 hK_42=>AW.srwK fun Q_43 hQ_43=>?_
  refine Au 2 (sT [(1,.d (.sl 5 (List.map e61 o))),(2,jI A),(144,jI A),(145,.d (.sl 5 (List.map e61 o)))] [] 28 0) ?_
  refine rL rfl ?_
  refine Au 1 (sT [(1,.d (.sl 5 (List.map e61 o))),(2,jI A),(147,.d (.bool (decide (A<(o.length:Int)))))] [] 28 0) ?_
  refine RW.nil (hQ_43 _ ?_)
  refine AW.cond rfl (fun hb_44=>?_) (fun hb_44=>False.elim (by have:=of_decide_eq_false hb_44;omega))
  refine AW.skip (hK_42 _ ?_)
  refine AW.seqK (fun K_45 hK_45=>?_)
  refine AW.block ?_
  refine AW.srwK (fun Q_46 hQ_46=>?_)
  refine Au 2 (sT [(1,.d (.sl 5 (List.map e61 o))),(2,jI A),(151,.d (.sl 5 (List.map e61 o))),(152,jI A)] [] 28 0) ?_
  refine RW.one fokW (r_iaD trivial rfl rfl hi_41 (row:=e61 p7) (mapget hp_41) (r_end ?_))
  refine Au 1 (sT [(1,.d (.sl 5 (List.map e61 o))),(2,jI A),(154,.agg [.d (.sl 4 (List.map e65 p7.Hanks)),.d (.sl 3 (List.map e67 p7.Horses)),jI p7.Dark,jI p7.Near,jI p7.Match])] [] 28 0) ?_
  obtain ⟨⟨r0_4,r1_5,r2_4⟩,hx_47,h⟩:=bsome h
  refine rC (k27 p7 (-1) 0 0 _ hx_47) ?_
  refine Au 7 (sT [(1,.d (.sl 5 (List.map e61 o))),(2,jI A),(5,jI r2_4)] [] 28 0) ?_
  refine RW.nil (hQ_46 _ ?_)
  refine AW.srwK (fun Q_48 hQ_48=>?_)
  refine Au 2 (sT [(1,.d (.sl 5 (List.map e61 o))),(2,jI A),(5,jI r2_4),(160,.d (.sl 5 (List.map e61 o))),(161,jI A)] [] 28 0) ?_
  refine RW.one fokW (r_iaD trivial rfl rfl hi_41 (row:=e61 p7) (mapget hp_41) (r_end ?_))
  refine Au 1 (sT [(1,.d (.sl 5 (List.map e61 o))),(2,jI A),(5,jI r2_4),(163,.agg [.d (.sl 4 (List.map e65 p7.Hanks)),.d (.sl 3 (List.map e67 p7.Horses)),jI p7.Dark,jI p7.Near,jI p7.Match])] [] 28 0) ?_
  obtain ⟨⟨r0_2_1,r1_4⟩,hx_49,h⟩:=bsome h
  refine RW.one fokW (r_callZ (zr:=[]) trivial rfl (k28 p7 ([]:(List Int)) _ hx_49) trivial ⟨.refl _,(.nil 1),trivial⟩ rfl rfl rfl rfl (r_end ?_))
  refine Au 5 (sT [(1,.d (.sl 5 (List.map e61 o))),(2,jI A),(5,jI r2_4),(7,jI r1_4)] [] 28 0) ?_
  refine RW.nil (hQ_48 _ ?_)
  refine AW.srwK (fun Q_50 hQ_50=>?_)
  refine Au 2 (sT [(1,.d (.sl 5 (List.map e61 o))),(2,jI A),(5,jI r2_4),(7,jI r1_4),(168,.d (.sl 5 (List.map e61 o))),(169,jI A)] [] 28 0) ?_
  refine RW.one fokW (r_iaD trivial rfl rfl hi_41 (row:=e61 p7) (mapget hp_41) (r_end ?_))
  refine Au 1 (sT [(1,.d (.sl 5 (List.map e61 o))),(2,jI A),(5,jI r2_4),(7,jI r1_4),(171,.agg [.d (.sl 4 (List.map e65 p7.Hanks)),.d (.sl 3 (List.map e67 p7.Horses)),jI p7.Dark,jI p7.Near,jI p7.Match])] [] 28 0) ?_
  obtain ⟨⟨r0_2_2,r1_4_1⟩,hx_51,h⟩:=bsome h
  refine RW.one fokW (r_callZ (zr:=[]) trivial rfl (k29 p7 ([]:(List Int)) 0 _ hx_51) trivial ⟨.refl _,(.nil 1),.refl _,trivial⟩ rfl rfl rfl rfl (r_end ?_))
  refine Au 6 (sT [(1,.d (.sl 5 (List.map e61 o))),(2,jI A),(5,jI r2_4),(7,jI r1_4),(9,jI r1_4_1)] [] 29 0) ?_
  refine RW.nil (hQ_50 _ ?_)
  refine AW.srwK (fun Q_52 hQ_52=>?_)
  refine Au 2 (sT [(1,.d (.sl 5 (List.map e61 o))),(2,jI A),(5,jI r2_4),(7,jI r1_4),(9,jI r1_4_1),(176,.d (.sl 5 (List.map e61 o))),(177,jI A)] [] 29 0) ?_
  refine RW.one fokW (r_iaD trivial rfl rfl hi_41 (row:=e61 p7) (mapget hp_41) (r_end ?_))
  refine Au 1 (sT [(1,.d (.sl 5 (List.map e61 o))),(2,jI A),(5,jI r2_4),(7,jI r1_4),(9,jI r1_4_1),(179,.agg [.d (.sl 4 (List.map e65 p7.Hanks)),.d (.sl 3 (List.map e67 p7.Horses)),jI p7.Dark,jI p7.Near,jI p7.Match])] [] 29 0) ?_
  obtain ⟨⟨r0_2_3,r1_4_2⟩,hx_53,h⟩:=bsome h
  refine RW.one fokW (r_callZ (zr:=[]) trivial rfl (k30 p7 ([]:(List Int)) _ hx_53) trivial ⟨.refl _,(.nil 1),trivial⟩ rfl rfl rfl rfl (r_end ?_))
  refine Au 6 (sT [(1,.d (.sl 5 (List.map e61 o))),(2,jI A),(5,jI r2_4),(7,jI r1_4),(9,jI r1_4_1),(11,jI r1_4_2)] [] 30 0) ?_
  refine RW.nil (hQ_52 _ ?_)
  refine AW.srwK (fun Q_54 hQ_54=>?_)
  refine Au 2 (sT [(1,.d (.sl 5 (List.map e61 o))),(2,jI A),(5,jI r2_4),(7,jI r1_4),(9,jI r1_4_1),(11,jI r1_4_2),(184,.d (.sl 5 (List.map e61 o))),(185,jI A)] [] 30 0) ?_
  refine RW.one fokW (r_iaD trivial rfl rfl hi_41 (row:=e61 p7) (mapget hp_41) (r_end ?_))
  refine Au 1 (sT [(1,.d (.sl 5 (List.map e61 o))),(2,jI A),(5,jI r2_4),(7,jI r1_4),(9,jI r1_4_1),(11,jI r1_4_2),(187,.agg [.d (.sl 4 (List.map e65 p7.Hanks)),.d (.sl 3 (List.map e67 p7.Horses)),jI p7.Dark,jI p7.Near,jI p7.Match])] [] 30 0) ?_
  obtain ⟨⟨r0_3_1,r1_3⟩,hx_55,h⟩:=bsome h
  refine rC (k31 p7 _ hx_55) ?_
  refine Au 5 (sT [(1,.d (.sl 5 (List.map e61 o))),(2,jI A),(5,jI r2_4),(7,jI r1_4),(9,jI r1_4_1),(11,jI r1_4_2),(13,jI r1_3)] [] 30 0) ?_
  refine RW.nil (hQ_54 _ ?_)
  refine AW.srwK (fun Q_56 hQ_56=>?_)
  refine Au 2 (sT [(1,.d (.sl 5 (List.map e61 o))),(2,jI A),(5,jI r2_4),(7,jI r1_4),(9,jI r1_4_1),(11,jI r1_4_2),(13,jI r1_3),(192,.d (.sl 5 (List.map e61 o))),(193,jI A)] [] 30 0) ?_
  refine RW.one fokW (r_iaD trivial rfl rfl hi_41 (row:=e61 p7) (mapget hp_41) (r_end ?_))
  refine Au 1 (sT [(1,.d (.sl 5 (List.map e61 o))),(2,jI A),(5,jI r2_4),(7,jI r1_4),(9,jI r1_4_1),(11,jI r1_4_2),(13,jI r1_3),(195,.agg [.d (.sl 4 (List.map e65 p7.Hanks)),.d (.sl 3 (List.map e67 p7.Horses)),jI p7.Dark,jI p7.Near,jI p7.Match])] [] 30 0) ?_
  obtain ⟨⟨r0_2_4,r1_1⟩,hx_57,h⟩:=bsome h
  refine rC (k32 p7 _ hx_57) ?_
  refine Au 5 (sT [(1,.d (.sl 5 (List.map e61 o))),(2,jI A),(5,jI r2_4),(7,jI r1_4),(9,jI r1_4_1),(11,jI r1_4_2),(13,jI r1_3),(15,jI r1_1)] [] 30 0) ?_
  refine RW.nil (hQ_56 _ ?_)
  refine AW.srwK (fun Q_58 hQ_58=>?_)
  refine Au 2 (sT [(1,.d (.sl 5 (List.map e61 o))),(2,jI A),(5,jI r2_4),(7,jI r1_4),(9,jI r1_4_1),(11,jI r1_4_2),(13,jI r1_3),(15,jI r1_1),(200,.d (.sl 5 (List.map e61 o))),(201,jI A)] [] 30 0) ?_
  refine RW.one fokW (r_iaD trivial rfl rfl hi_41 (row:=e61 p7) (mapget hp_41) (r_end ?_))
  refine Au 1 (sT [(1,.d (.sl 5 (List.map e61 o))),(2,jI A),(5,jI r2_4),(7,jI r1_4),(9,jI r1_4_1),(11,jI r1_4_2),(13,jI r1_3),(15,jI r1_1),(203,.agg [.d (.sl 4 (List.map e65 p7.Hanks)),.d (.sl 3 (List.map e67 p7.Horses)),jI p7.Dark,jI p7.Near,jI p7.Match])] [] 30 0) ?_
  obtain ⟨⟨r0_5,r1_6⟩,hx_59,h⟩:=bsome h
  refine rC (k33 p7 (-1) _ hx_59) ?_
  refine Au 5 (sT [(1,.d (.sl 5 (List.map e61 o))),(2,jI A),(5,jI r2_4),(7,jI r1_4),(9,jI r1_4_1),(11,jI r1_4_2),(13,jI r1_3),(15,jI r1_1),(17,jI r1_6)] [] 30 0) ?_
  refine RW.nil (hQ_58 _ ?_)
  refine AW.srwK (fun Q_60 hQ_60=>?_)
  refine Au 2 (sT [(1,.d (.sl 5 (List.map e61 o))),(2,jI A),(5,jI r2_4),(7,jI r1_4),(9,jI r1_4_1),(11,jI r1_4_2),(13,jI r1_3),(15,jI r1_1),(17,jI r1_6),(208,.d (.sl 5 (List.map e61 o))),(209,jI A)] [] 30 0) ?_
  refine RW.one fokW (r_iaD trivial rfl rfl hi_41 (row:=e61 p7) (mapget hp_41) (r_end ?_))
  refine Au 1 (sT [(1,.d (.sl 5 (List.map e61 o))),(2,jI A),(5,jI r2_4),(7,jI r1_4),(9,jI r1_4_1),(11,jI r1_4_2),(13,jI r1_3),(15,jI r1_1),(17,jI r1_6),(211,.agg [.d (.sl 4 (List.map e65 p7.Hanks)),.d (.sl 3 (List.map e67 p7.Horses)),jI p7.Dark,jI p7.Near,jI p7.Match])] [] 30 0) ?_
  obtain ⟨⟨r0_1_1,r1_1_1⟩,hx_61,h⟩:=bsome h
  refine rC (k34 p7 _ hx_61) ?_
  refine Au 5 (sT [(1,.d (.sl 5 (List.map e61 o))),(2,jI A),(5,jI r2_4),(7,jI r1_4),(9,jI r1_4_1),(11,jI r1_4_2),(13,jI r1_3),(15,jI r1_1),(17,jI r1_6),(19,jI r1_1_1)] [] 30 0) ?_
  refine RW.nil (hQ_60 _ ?_)
  refine AW.srwK (fun Q_62 hQ_62=>?_)
  refine Au 2 (sT [(1,.d (.sl 5 (List.map e61 o))),(2,jI A),(5,jI r2_4),(7,jI r1_4),(9,jI r1_4_1),(11,jI r1_4_2),(13,jI r1_3),(15,jI r1_1),(17,jI r1_6),(19,jI r1_1_1),(215,.d (.sl 5 (List.map e61 o))),(216,jI A)] [] 30 0) ?_
  refine RW.one fokW (r_iaD trivial rfl rfl hi_41 (row:=e61 p7) (mapget hp_41) (r_end ?_))
  refine Au 1 (sT [(1,.d (.sl 5 (List.map e61 o))),(2,jI A),(5,jI r2_4),(7,jI r1_4),(9,jI r1_4_1),(11,jI r1_4_2),(13,jI r1_3),(15,jI r1_1),(17,jI r1_6),(19,jI r1_1_1),(218,.agg [.d (.sl 4 (List.map e65 p7.Hanks)),.d (.sl 3 (List.map e67 p7.Horses)),jI p7.Dark,jI p7.Near,jI p7.Match])] [] 30 0) ?_
  obtain ⟨r0_9,hx_63,h⟩:=bsome h
  refine rC (k35 p7 _ hx_63) ?_
  refine RW.au fokW 33 [221,225,229,233,237,241,245,249] (sT [(1,.d (.sl 5 (List.map e61 o))),(2,jI A),(252,.d (.bool (((((((((decide (r0_9≠60))||(decide (r2_4≠60)))||(decide (r1_4≠60)))||(decide (r1_4_1≠60)))||(decide (r1_4_2≠60)))||(decide (r1_3≠60)))||(decide (r1_1≠60)))||(decide (r1_6≠60)))||(decide (r1_1_1≠60)))))] [] 30 0) (by kernel_rfl) ?_
  refine RW.nil (hQ_62 _ ?_)
  refine AW.cond rfl (fun hb_64=>?_) (fun hb_64=>?_)
  ·have h:=ifT hb_64 h
   refine Sa (sT [(0,.d (.bool false))] [] 30 0) ?_
   obtain rfl:=Option.some.inj h
   have e_1:=hb_41 _ rfl
   subst e_1
   obtain rfl:=Aft.bk hk_41
   exact rT hR_0 (.cons (.tmp rfl) .nil)
  ·have h:=ifF hb_64 h
   refine AW.skip (hK_45 _ ?_)
   refine Ra (sT [(1,.d (.sl 5 (List.map e61 o))),(2,jI (wr (A+1)))] [] 30 0) ?_
   obtain rfl:=Option.some.inj h
   have ew:wr (A+1)=A+1:=inext (N:=(o.length:Int)) (by omega) (by omega) (by omega)
   rw [ew]
   exact hK_41 _ _ rfl (Can.kp (by kernel_rfl))
 ·subst hout
  have h:=Aft.nx hk_41
  refine AW.seqK fun K_65 hK_65=>AW.srwK fun Q_66 hQ_66=>?_
  refine Au 2 (sT [(1,.d (.sl 5 (List.map e61 o))),(2,jI A),(144,jI A),(145,.d (.sl 5 (List.map e61 o)))] [] 28 0) ?_
  refine rL rfl ?_
  refine Au 1 (sT [(1,.d (.sl 5 (List.map e61 o))),(2,jI A),(147,.d (.bool (decide (A<(o.length:Int)))))] [] 28 0) ?_
  refine RW.nil (hQ_66 _ ?_)
  refine AW.cond rfl (fun hb_67=>False.elim (by have:=of_decide_eq_true hb_67;omega)) (fun hb_67=>?_)
  refine AW.exit ?_
  refine hK_39 _ ?_
  refine AW.srwK (fun Q_68 hQ_68=>?_)
  obtain ⟨r0_11_4,hx_69,h⟩:=bsome h
  refine rC (k26a _ hx_69) ?_
  obtain ⟨⟨r0_4_1,r1_5_1,r2_4_1⟩,hx_70,h⟩:=bsome h
  refine rC (k27 r0_11_4 2 0 0 _ hx_70) ?_
  refine Au 7 (sT [(22,jI r2_4_1)] [] 28 0) ?_
  refine RW.nil (hQ_68 _ ?_)
  refine AW.srwK (fun Q_71 hQ_71=>?_)
  obtain ⟨r0_11_5,hx_72,h⟩:=bsome h
  refine rC (k26a _ hx_72) ?_
  obtain ⟨⟨r0_4_2,r1_5_2,r2_4_2⟩,hx_73,h⟩:=bsome h
  refine rC (k27 r0_11_5 0 3 0 _ hx_73) ?_
  refine Au 7 (sT [(22,jI r2_4_1),(25,jI r2_4_2)] [] 28 0) ?_
  refine RW.nil (hQ_71 _ ?_)
  refine AW.srwK (fun Q_74 hQ_74=>?_)
  obtain ⟨r0_11_6,hx_75,h⟩:=bsome h
  refine rC (k26a _ hx_75) ?_
  refine Au 1 (sT [(22,jI r2_4_1),(25,jI r2_4_2),(266,.agg [.d (.sl 4 (List.map e65 r0_11_6.Hanks)),.d (.sl 3 (List.map e67 r0_11_6.Horses)),jI r0_11_6.Dark,jI r0_11_6.Near,jI r0_11_6.Match]),(267,.own 28 (List.map e3 [0,0,1]).length)] [(28,.row 3 1 (List.map e3 [0,0,1]))] 29 0) ?_
  obtain ⟨⟨r0_2_5,r1_4_3⟩,hx_76,h⟩:=bsome h
  refine RW.one fokW (r_callF (rs:=[(28,.row 3 1 (List.map e3 [0,0,1]))]) trivial rfl (k28 r0_11_6 [0,0,1] _ hx_76) ⟨rfl,trivial⟩ ⟨.refl _,(.own rfl rfl),trivial⟩ rfl rfl rfl (r_end ?_))
  refine Au 5 (sT [(22,jI r2_4_1),(25,jI r2_4_2),(27,jI r1_4_3)] [] 29 0) ?_
  refine RW.nil (hQ_74 _ ?_)
  refine AW.srwK (fun Q_77 hQ_77=>?_)
  obtain ⟨r0_11_7,hx_78,h⟩:=bsome h
  refine rC (k26a _ hx_78) ?_
  refine Au 1 (sT [(22,jI r2_4_1),(25,jI r2_4_2),(27,jI r1_4_3),(272,.agg [.d (.sl 4 (List.map e65 r0_11_7.Hanks)),.d (.sl 3 (List.map e67 r0_11_7.Horses)),jI r0_11_7.Dark,jI r0_11_7.Near,jI r0_11_7.Match]),(273,.own 29 (List.map e3 [0,0,1,3]).length)] [(29,.row 3 1 (List.map e3 [0,0,1,3]))] 30 0) ?_
  obtain ⟨⟨r0_2_6,r1_4_4⟩,hx_79,h⟩:=bsome h
  refine RW.one fokW (r_callF (rs:=[(29,.row 3 1 (List.map e3 [0,0,1,3]))]) trivial rfl (k28 r0_11_7 [0,0,1,3] _ hx_79) ⟨rfl,trivial⟩ ⟨.refl _,(.own rfl rfl),trivial⟩ rfl rfl rfl (r_end ?_))
  refine Au 5 (sT [(22,jI r2_4_1),(25,jI r2_4_2),(27,jI r1_4_3),(29,jI r1_4_4)] [] 30 0) ?_
  refine RW.nil (hQ_77 _ ?_)
  refine AW.srwK (fun Q_80 hQ_80=>?_)
  obtain ⟨r0_11_8,hx_81,h⟩:=bsome h
  refine rC (k26a _ hx_81) ?_
  refine Au 1 (sT [(22,jI r2_4_1),(25,jI r2_4_2),(27,jI r1_4_3),(29,jI r1_4_4),(278,.agg [.d (.sl 4 (List.map e65 r0_11_8.Hanks)),.d (.sl 3 (List.map e67 r0_11_8.Horses)),jI r0_11_8.Dark,jI r0_11_8.Near,jI r0_11_8.Match]),(279,.own 30 (List.map e3 [0,1,1,1]).length)] [(30,.row 3 1 (List.map e3 [0,1,1,1]))] 31 0) ?_
  obtain ⟨⟨r0_2_7,r1_4_5⟩,hx_82,h⟩:=bsome h
  refine RW.one fokW (r_callF (rs:=[(30,.row 3 1 (List.map e3 [0,1,1,1]))]) trivial rfl (k29 r0_11_8 [0,1,1,1] 0 _ hx_82) ⟨rfl,trivial⟩ ⟨.refl _,(.own rfl rfl),.refl _,trivial⟩ rfl rfl rfl (r_end ?_))
  refine Au 6 (sT [(22,jI r2_4_1),(25,jI r2_4_2),(27,jI r1_4_3),(29,jI r1_4_4),(31,jI r1_4_5)] [] 32 0) ?_
  refine RW.nil (hQ_80 _ ?_)
  refine AW.srwK (fun Q_83 hQ_83=>?_)
  obtain ⟨r0_11_9,hx_84,h⟩:=bsome h
  refine rC (k26a _ hx_84) ?_
  refine Au 1 (sT [(22,jI r2_4_1),(25,jI r2_4_2),(27,jI r1_4_3),(29,jI r1_4_4),(31,jI r1_4_5),(284,.agg [.d (.sl 4 (List.map e65 r0_11_9.Hanks)),.d (.sl 3 (List.map e67 r0_11_9.Horses)),jI r0_11_9.Dark,jI r0_11_9.Near,jI r0_11_9.Match]),(285,.own 32 (List.map e3 [0,0,1,1]).length)] [(32,.row 3 1 (List.map e3 [0,0,1,1]))] 33 0) ?_
  obtain ⟨⟨r0_2_8,r1_4_6⟩,hx_85,h⟩:=bsome h
  refine RW.one fokW (r_callF (rs:=[(32,.row 3 1 (List.map e3 [0,0,1,1]))]) trivial rfl (k29 r0_11_9 [0,0,1,1] 3 _ hx_85) ⟨rfl,trivial⟩ ⟨.refl _,(.own rfl rfl),.refl _,trivial⟩ rfl rfl rfl (r_end ?_))
  refine Au 6 (sT [(22,jI r2_4_1),(25,jI r2_4_2),(27,jI r1_4_3),(29,jI r1_4_4),(31,jI r1_4_5),(33,jI r1_4_6)] [] 34 0) ?_
  refine RW.nil (hQ_83 _ ?_)
  refine AW.srwK (fun Q_86 hQ_86=>?_)
  obtain ⟨r0_11_10,hx_87,h⟩:=bsome h
  refine rC (k26a _ hx_87) ?_
  refine Au 1 (sT [(22,jI r2_4_1),(25,jI r2_4_2),(27,jI r1_4_3),(29,jI r1_4_4),(31,jI r1_4_5),(33,jI r1_4_6),(290,.agg [.d (.sl 4 (List.map e65 r0_11_10.Hanks)),.d (.sl 3 (List.map e67 r0_11_10.Horses)),jI r0_11_10.Dark,jI r0_11_10.Near,jI r0_11_10.Match]),(291,.own 34 (List.map e3 [2,2,2,2]).length)] [(34,.row 3 1 (List.map e3 [2,2,2,2]))] 35 0) ?_
  obtain ⟨⟨r0_2_9,r1_4_7⟩,hx_88,h⟩:=bsome h
  refine RW.one fokW (r_callF (rs:=[(34,.row 3 1 (List.map e3 [2,2,2,2]))]) trivial rfl (k30 r0_11_10 [2,2,2,2] _ hx_88) ⟨rfl,trivial⟩ ⟨.refl _,(.own rfl rfl),trivial⟩ rfl rfl rfl (r_end ?_))
  refine Au 6 (sT [(22,jI r2_4_1),(25,jI r2_4_2),(27,jI r1_4_3),(29,jI r1_4_4),(31,jI r1_4_5),(33,jI r1_4_6),(35,jI r1_4_7)] [] 36 0) ?_
  refine RW.nil (hQ_86 _ ?_)
  refine AW.srwK (fun Q_89 hQ_89=>?_)
  obtain ⟨r0_11_11,hx_90,h⟩:=bsome h
  refine rC (k26a _ hx_90) ?_
  obtain ⟨⟨r0_5_1,r1_6_1⟩,hx_91,h⟩:=bsome h
  refine rC (k33 r0_11_11 21 _ hx_91) ?_
  refine Au 5 (sT [(22,jI r2_4_1),(25,jI r2_4_2),(27,jI r1_4_3),(29,jI r1_4_4),(31,jI r1_4_5),(33,jI r1_4_6),(35,jI r1_4_7),(37,jI r1_6_1)] [] 36 0) ?_
  refine RW.nil (hQ_89 _ ?_)
  refine AW.srwK (fun Q_92 hQ_92=>?_)
  obtain ⟨r0_11_12,hx_93,h⟩:=bsome h
  refine rC (k26a _ hx_93) ?_
  obtain ⟨⟨r0_4_3,r1_5_3,r2_4_3⟩,hx_94,h⟩:=bsome h
  refine rC (k27 r0_11_12 1 2 2 _ hx_94) ?_
  refine Au 7 (sT [(22,jI r2_4_1),(25,jI r2_4_2),(27,jI r1_4_3),(29,jI r1_4_4),(31,jI r1_4_5),(33,jI r1_4_6),(35,jI r1_4_7),(37,jI r1_6_1),(40,jI r2_4_3)] [] 36 0) ?_
  refine RW.nil (hQ_92 _ ?_)
  refine AW.srwK (fun Q_95 hQ_95=>?_)
  obtain ⟨r0_6,hx_96,h⟩:=bsome h
  refine rC (k36 _ hx_96) ?_
  obtain ⟨⟨r0_3_2,r1_3_1⟩,hx_97,h⟩:=bsome h
  refine rC (k31 r0_6 _ hx_97) ?_
  refine Au 5 (sT [(22,jI r2_4_1),(25,jI r2_4_2),(27,jI r1_4_3),(29,jI r1_4_4),(31,jI r1_4_5),(33,jI r1_4_6),(35,jI r1_4_7),(37,jI r1_6_1),(40,jI r2_4_3),(42,jI r1_3_1)] [] 36 0) ?_
  refine RW.nil (hQ_95 _ ?_)
  refine AW.srwK (fun Q_98 hQ_98=>?_)
  obtain ⟨r0_7,hx_99,h⟩:=bsome h
  refine rC (k36 _ hx_99) ?_
  obtain ⟨⟨r0_5_2,r1_6_2⟩,hx_100,h⟩:=bsome h
  refine rC (k33 r0_7 0 _ hx_100) ?_
  refine Au 5 (sT [(22,jI r2_4_1),(25,jI r2_4_2),(27,jI r1_4_3),(29,jI r1_4_4),(31,jI r1_4_5),(33,jI r1_4_6),(35,jI r1_4_7),(37,jI r1_6_1),(40,jI r2_4_3),(42,jI r1_3_1),(44,jI r1_6_2)] [] 36 0) ?_
  refine RW.nil (hQ_98 _ ?_)
  refine AW.seqK (fun K_101 hK_101=>?_)
  refine AW.sa fokW [318,322,326,330,334,338,342,346,350,354] (sT [(357,.d (.bool (((((((((((decide (r2_4_1≠61))||(decide (r2_4_2≠61)))||(decide (r1_4_3≠61)))||(decide (r1_4_4≠61)))||(decide (r1_4_5≠61)))||(decide (r1_4_6≠61)))||(decide (r1_4_7≠61)))||(decide (r1_6_1≠61)))||(decide (r2_4_3≠4)))||(decide (r1_3_1≠4)))||(decide (r1_6_2≠4)))))] [] 36 0) (by kernel_rfl) ?_
  refine AW.cond rfl (fun hb_102=>?_) (fun hb_102=>?_)
  ·have h:=ifT hb_102 h
   refine Sa (sT [(0,.d (.bool false))] [] 36 0) ?_
   obtain rfl:=Option.some.inj h
   exact rT hR_0 (.cons (.tmp rfl) .nil)
  ·have h:=ifF hb_102 h
   refine AW.skip (hK_101 _ ?_)
   refine Sa (sT [(45,.own 36 (List.map e77 ([(arrL [0,0,0,1,1]),(arrL [0,0,1,1,0]),(arrL [1,0,1,2,0])])).length)] [(36,.row 77 5 (List.map e77 ([(arrL [0,0,0,1,1]),(arrL [0,0,1,1,0]),(arrL [1,0,1,2,0])])))] 37 0) ?_
   refine AW.seqK (fun K_103 hK_103=>?_)
   refine Sa (sT [(45,.own 36 (List.map e77 ([(arrL [0,0,0,1,1]),(arrL [0,0,1,1,0]),(arrL [1,0,1,2,0])])).length),(46,jI 0)] [(36,.row 77 5 (List.map e77 ([(arrL [0,0,0,1,1]),(arrL [0,0,1,1,0]),(arrL [1,0,1,2,0])])))] 37 0) ?_
   refine AW.block ?_
   refine AW.can (Can.fzE 45 36 rfl rfl rfl) ?_
   refine AW.sln (t:=45) rfl (fun hN_104=>?_)
   rw [List.length_map] at hN_104
   obtain ⟨out_104,hx_104,hk_104⟩:=bsomeC h
   refine AW.evCK (fun (v:Int) (_:Unit)=>(sT [(45,.d (.sl 5 (List.map e77 ([(arrL [0,0,0,1,1]),(arrL [0,0,1,1,0]),(arrL [1,0,1,2,0])])))),(46,jI v)] [] 37 0)) g4_104 hx_104 (Can.kp (by kernel_rfl)) (fun v p8 s_104 hi_104 hl_104 hp_104 c_104 h hb_104 K_104 hK_104=>?_) (fun v s_104 hi_104 hl_104 hout=>?_)
   ·unfold g4_104 at h
    refine AW.seqK fun K_105 hK_105=>AW.srwK fun Q_106 hQ_106=>?_
    refine Au 2 (sT [(45,.d (.sl 5 (List.map e77 ([(arrL [0,0,0,1,1]),(arrL [0,0,1,1,0]),(arrL [1,0,1,2,0])])))),(46,jI v),(362,jI v),(363,.d (.sl 5 (List.map e77 ([(arrL [0,0,0,1,1]),(arrL [0,0,1,1,0]),(arrL [1,0,1,2,0])]))))] [] 37 0) ?_
    refine rL rfl ?_
    refine Au 1 (sT [(45,.d (.sl 5 (List.map e77 ([(arrL [0,0,0,1,1]),(arrL [0,0,1,1,0]),(arrL [1,0,1,2,0])])))),(46,jI v),(365,.d (.bool (decide (v<(([(arrL [0,0,0,1,1]),(arrL [0,0,1,1,0]),(arrL [1,0,1,2,0])]).length:Int)))))] [] 37 0) ?_
    refine RW.nil (hQ_106 _ ?_)
    refine AW.cond rfl (fun hb_107=>?_) (fun hb_107=>False.elim (by have:=of_decide_eq_false hb_107;omega))
    refine AW.skip (hK_105 _ ?_)
    refine AW.seqK (fun K_108 hK_108=>?_)
    refine AW.block ?_
    refine AW.sdrwK fokW (fun Q_109 hQ_109=>?_)
    obtain ⟨r0_11_13,hx_110,h⟩:=bsome h
    refine r_call trivial rfl (k26a _ hx_110) rfl rfl ?_
    refine aX 2 (sT [(45,.d (.sl 5 (List.map e77 ([(arrL [0,0,0,1,1]),(arrL [0,0,1,1,0]),(arrL [1,0,1,2,0])])))),(46,jI v),(369,.agg [.d (.sl 4 (List.map e65 r0_11_13.Hanks)),.d (.sl 3 (List.map e67 r0_11_13.Horses)),jI r0_11_13.Dark,jI r0_11_13.Near,jI r0_11_13.Match]),(370,.d (.sl 5 (List.map e77 ([(arrL [0,0,0,1,1]),(arrL [0,0,1,1,0]),(arrL [1,0,1,2,0])])))),(371,jI v)] [] 37 0) ?_
    refine r_iaD trivial rfl rfl hi_104 (row:=e77 p8) (mapget hp_104) ?_
    refine aX 4 (sT [(45,.d (.sl 5 (List.map e77 ([(arrL [0,0,0,1,1]),(arrL [0,0,1,1,0]),(arrL [1,0,1,2,0])])))),(46,jI v),(369,.agg [.d (.sl 4 (List.map e65 r0_11_13.Hanks)),.d (.sl 3 (List.map e67 r0_11_13.Horses)),jI r0_11_13.Dark,jI r0_11_13.Near,jI r0_11_13.Match]),(374,jI (p8 0)),(375,.d (.sl 5 (List.map e77 ([(arrL [0,0,0,1,1]),(arrL [0,0,1,1,0]),(arrL [1,0,1,2,0])])))),(376,jI v)] [] 37 0) ?_
    refine r_iaD trivial rfl rfl hi_104 (row:=e77 p8) (mapget hp_104) ?_
    refine aX 4 (sT [(45,.d (.sl 5 (List.map e77 ([(arrL [0,0,0,1,1]),(arrL [0,0,1,1,0]),(arrL [1,0,1,2,0])])))),(46,jI v),(369,.agg [.d (.sl 4 (List.map e65 r0_11_13.Hanks)),.d (.sl 3 (List.map e67 r0_11_13.Horses)),jI r0_11_13.Dark,jI r0_11_13.Near,jI r0_11_13.Match]),(374,jI (p8 0)),(379,jI (p8 1)),(380,.d (.sl 5 (List.map e77 ([(arrL [0,0,0,1,1]),(arrL [0,0,1,1,0]),(arrL [1,0,1,2,0])])))),(381,jI v)] [] 37 0) ?_
    refine r_iaD trivial rfl rfl hi_104 (row:=e77 p8) (mapget hp_104) ?_
    refine aX 2 (sT [(45,.d (.sl 5 (List.map e77 ([(arrL [0,0,0,1,1]),(arrL [0,0,1,1,0]),(arrL [1,0,1,2,0])])))),(46,jI v),(369,.agg [.d (.sl 4 (List.map e65 r0_11_13.Hanks)),.d (.sl 3 (List.map e67 r0_11_13.Horses)),jI r0_11_13.Dark,jI r0_11_13.Near,jI r0_11_13.Match]),(374,jI (p8 0)),(379,jI (p8 1)),(384,jI (p8 2))] [] 37 0) ?_
    obtain ⟨⟨r0_4_4,r1_5_4,r2_4_4⟩,hx_111,h⟩:=bsome h
    refine r_call trivial rfl (k27 r0_11_13 (p8 0) (p8 1) (p8 2) _ hx_111) rfl rfl ?_
    refine aX 7 (sT [(45,.d (.sl 5 (List.map e77 ([(arrL [0,0,0,1,1]),(arrL [0,0,1,1,0]),(arrL [1,0,1,2,0])])))),(46,jI v),(47,jI r0_4_4),(48,jI r1_5_4),(49,jI r2_4_4)] [] 37 0) ?_
    refine Fi (sT [(45,.d (.sl 5 (List.map e77 ([(arrL [0,0,0,1,1]),(arrL [0,0,1,1,0]),(arrL [1,0,1,2,0])])))),(46,jI v),(47,jI r0_4_4),(48,jI r1_5_4),(49,jI r2_4_4)] [] 37 0) ?_
    refine hQ_109 _ ?_
    refine AW.srwK (fun Q_112 hQ_112=>?_)
    refine Au 3 (sT [(45,.d (.sl 5 (List.map e77 ([(arrL [0,0,0,1,1]),(arrL [0,0,1,1,0]),(arrL [1,0,1,2,0])])))),(46,jI v),(47,jI r0_4_4),(48,jI r1_5_4),(391,.d (.bool (decide (r2_4_4≠0))))] [] 37 0) ?_
    obtain ⟨v1,hx_113,h⟩:=bsome h
    refine RW.cut fokW 8 ((sT [(45,.d (.sl 5 (List.map e77 ([(arrL [0,0,0,1,1]),(arrL [0,0,1,1,0]),(arrL [1,0,1,2,0])])))),(46,jI v),(48,jI r1_5_4),(399,.d (.bool v1))] [] 37 0)) ?_ ?_
    ·refine r_split 391 rfl (fun hb_114=>?_) (fun hb_114=>?_)
     ·have h:=ifT hb_114 hx_113
      refine aX 8 (sT [(45,.d (.sl 5 (List.map e77 ([(arrL [0,0,0,1,1]),(arrL [0,0,1,1,0]),(arrL [1,0,1,2,0])])))),(46,jI v),(48,jI r1_5_4),(399,.d (.bool true))] [] 37 0) ?_
      obtain rfl:=Option.some.inj h
      refine RunC.finJ (Can.kp (by kernel_rfl))
     ·have h:=ifF hb_114 hx_113
      refine aX 3 (sT [(45,.d (.sl 5 (List.map e77 ([(arrL [0,0,0,1,1]),(arrL [0,0,1,1,0]),(arrL [1,0,1,2,0])])))),(46,jI v),(48,jI r1_5_4),(391,.d (.bool false)),(392,jI r0_4_4),(393,.d (.sl 5 (List.map e77 ([(arrL [0,0,0,1,1]),(arrL [0,0,1,1,0]),(arrL [1,0,1,2,0])])))),(394,jI v)] [] 37 0) ?_
      refine r_iaD rfl rfl rfl hi_104 (row:=e77 p8) (mapget hp_104) ?_
      refine aX 4 (sT [(45,.d (.sl 5 (List.map e77 ([(arrL [0,0,0,1,1]),(arrL [0,0,1,1,0]),(arrL [1,0,1,2,0])])))),(46,jI v),(48,jI r1_5_4),(399,.d (.bool (decide (r0_4_4≠(p8 3)))))] [] 37 0) ?_
      obtain rfl:=Option.some.inj h
      refine RunC.finJ (Can.kp (by kernel_rfl))
    ·refine Au 1 (sT [(45,.d (.sl 5 (List.map e77 ([(arrL [0,0,0,1,1]),(arrL [0,0,1,1,0]),(arrL [1,0,1,2,0])])))),(46,jI v),(48,jI r1_5_4),(400,.d (.bool v1))] [] 37 0) ?_
     obtain ⟨v2,hx_115,h⟩:=bsome h
     refine RW.cut fokW 8 ((sT [(45,.d (.sl 5 (List.map e77 ([(arrL [0,0,0,1,1]),(arrL [0,0,1,1,0]),(arrL [1,0,1,2,0])])))),(46,jI v),(408,.d (.bool v2))] [] 37 0)) ?_ ?_
     ·refine r_split 400 rfl (fun hb_116=>?_) (fun hb_116=>?_)
      ·have h:=ifT hb_116 hx_115
       refine aX 8 (sT [(45,.d (.sl 5 (List.map e77 ([(arrL [0,0,0,1,1]),(arrL [0,0,1,1,0]),(arrL [1,0,1,2,0])])))),(46,jI v),(408,.d (.bool true))] [] 37 0) ?_
       obtain rfl:=Option.some.inj h
       refine RunC.finJ (Can.kp (by kernel_rfl))
      ·have h:=ifF hb_116 hx_115
       refine aX 3 (sT [(45,.d (.sl 5 (List.map e77 ([(arrL [0,0,0,1,1]),(arrL [0,0,1,1,0]),(arrL [1,0,1,2,0])])))),(46,jI v),(400,.d (.bool false)),(401,jI r1_5_4),(402,.d (.sl 5 (List.map e77 ([(arrL [0,0,0,1,1]),(arrL [0,0,1,1,0]),(arrL [1,0,1,2,0])])))),(403,jI v)] [] 37 0) ?_
       refine r_iaD rfl rfl rfl hi_104 (row:=e77 p8) (mapget hp_104) ?_
       refine aX 4 (sT [(45,.d (.sl 5 (List.map e77 ([(arrL [0,0,0,1,1]),(arrL [0,0,1,1,0]),(arrL [1,0,1,2,0])])))),(46,jI v),(408,.d (.bool (decide (r1_5_4≠(p8 4)))))] [] 37 0) ?_
       obtain rfl:=Option.some.inj h
       refine RunC.finJ (Can.kp (by kernel_rfl))
     ·refine RW.nil (hQ_112 _ ?_)
      refine AW.cond rfl (fun hb_117=>?_) (fun hb_117=>?_)
      ·have h:=ifT hb_117 h
       refine Sa (sT [(0,.d (.bool false))] [] 37 0) ?_
       obtain rfl:=Option.some.inj h
       have e_1:=hb_104 _ rfl
       subst e_1
       obtain rfl:=Aft.bk hk_104
       exact rT hR_0 (.cons (.tmp rfl) .nil)
      ·have h:=ifF hb_117 h
       refine AW.skip (hK_108 _ ?_)
       refine Ra (sT [(45,.d (.sl 5 (List.map e77 ([(arrL [0,0,0,1,1]),(arrL [0,0,1,1,0]),(arrL [1,0,1,2,0])])))),(46,jI (wr (v+1)))] [] 37 0) ?_
       obtain rfl:=Option.some.inj h
       have ew:wr (v+1)=v+1:=inext (N:=(([(arrL [0,0,0,1,1]),(arrL [0,0,1,1,0]),(arrL [1,0,1,2,0])]).length:Int)) (by omega) (by omega) (by omega)
       rw [ew]
       exact hK_104 _ _ rfl (Can.kp (by kernel_rfl))
   ·subst hout
    have h:=Aft.nx hk_104
    refine AW.seqK fun K_118 hK_118=>AW.srwK fun Q_119 hQ_119=>?_
    refine Au 2 (sT [(45,.d (.sl 5 (List.map e77 ([(arrL [0,0,0,1,1]),(arrL [0,0,1,1,0]),(arrL [1,0,1,2,0])])))),(46,jI v),(362,jI v),(363,.d (.sl 5 (List.map e77 ([(arrL [0,0,0,1,1]),(arrL [0,0,1,1,0]),(arrL [1,0,1,2,0])]))))] [] 37 0) ?_
    refine rL rfl ?_
    refine Au 1 (sT [(45,.d (.sl 5 (List.map e77 ([(arrL [0,0,0,1,1]),(arrL [0,0,1,1,0]),(arrL [1,0,1,2,0])])))),(46,jI v),(365,.d (.bool (decide (v<(([(arrL [0,0,0,1,1]),(arrL [0,0,1,1,0]),(arrL [1,0,1,2,0])]).length:Int)))))] [] 37 0) ?_
    refine RW.nil (hQ_119 _ ?_)
    refine AW.cond rfl (fun hb_120=>False.elim (by have:=of_decide_eq_true hb_120;omega)) (fun hb_120=>?_)
    refine AW.exit ?_
    refine hK_103 _ ?_
    refine AW.srwK (fun Q_121 hQ_121=>?_)
    obtain ⟨r0_11_14,hx_122,h⟩:=bsome h
    refine rC (k26a _ hx_122) ?_
    refine Au 1 (sT [(410,.agg [.d (.sl 4 (List.map e65 r0_11_14.Hanks)),.d (.sl 3 (List.map e67 r0_11_14.Horses)),jI r0_11_14.Dark,jI r0_11_14.Near,jI r0_11_14.Match]),(411,.own 37 (List.map e3 [0,0,1,1]).length)] [(37,.row 3 1 (List.map e3 [0,0,1,1]))] 38 0) ?_
    obtain ⟨⟨r0_2_10,r1_4_8⟩,hx_123,h⟩:=bsome h
    refine RW.one fokW (r_callF (rs:=[(37,.row 3 1 (List.map e3 [0,0,1,1]))]) trivial rfl (k28 r0_11_14 [0,0,1,1] _ hx_123) ⟨rfl,trivial⟩ ⟨.refl _,(.own rfl rfl),trivial⟩ rfl rfl rfl (r_end ?_))
    refine Au 5 (sT [(22,jI r1_4_8),(50,.d (.bool r0_2_10))] [] 38 0) ?_
    refine RW.nil (hQ_121 _ ?_)
    refine AW.srwK (fun Q_124 hQ_124=>?_)
    obtain ⟨r0_11_15,hx_125,h⟩:=bsome h
    refine rC (k26a _ hx_125) ?_
    refine Au 1 (sT [(22,jI r1_4_8),(50,.d (.bool r0_2_10)),(416,.agg [.d (.sl 4 (List.map e65 r0_11_15.Hanks)),.d (.sl 3 (List.map e67 r0_11_15.Horses)),jI r0_11_15.Dark,jI r0_11_15.Near,jI r0_11_15.Match]),(417,.own 38 (List.map e3 [0,1,1,1]).length)] [(38,.row 3 1 (List.map e3 [0,1,1,1]))] 39 0) ?_
    obtain ⟨⟨r0_2_11,r1_4_9⟩,hx_126,h⟩:=bsome h
    refine RW.one fokW (r_callF (rs:=[(38,.row 3 1 (List.map e3 [0,1,1,1]))]) trivial rfl (k28 r0_11_15 [0,1,1,1] _ hx_126) ⟨rfl,trivial⟩ ⟨.refl _,(.own rfl rfl),trivial⟩ rfl rfl rfl (r_end ?_))
    refine Au 5 (sT [(22,jI r1_4_8),(25,jI r1_4_9),(50,.d (.bool r0_2_10)),(51,.d (.bool r0_2_11))] [] 39 0) ?_
    refine RW.nil (hQ_124 _ ?_)
    refine AW.srwK (fun Q_127 hQ_127=>?_)
    obtain ⟨r0_11_16,hx_128,h⟩:=bsome h
    refine rC (k26a _ hx_128) ?_
    refine Au 1 (sT [(22,jI r1_4_8),(25,jI r1_4_9),(50,.d (.bool r0_2_10)),(51,.d (.bool r0_2_11)),(422,.agg [.d (.sl 4 (List.map e65 r0_11_16.Hanks)),.d (.sl 3 (List.map e67 r0_11_16.Horses)),jI r0_11_16.Dark,jI r0_11_16.Near,jI r0_11_16.Match]),(423,.own 39 (List.map e3 [0,0,1,1]).length)] [(39,.row 3 1 (List.map e3 [0,0,1,1]))] 40 0) ?_
    obtain ⟨⟨r0_2_12,r1_4_10⟩,hx_129,h⟩:=bsome h
    refine RW.one fokW (r_callF (rs:=[(39,.row 3 1 (List.map e3 [0,0,1,1]))]) trivial rfl (k30 r0_11_16 [0,0,1,1] _ hx_129) ⟨rfl,trivial⟩ ⟨.refl _,(.own rfl rfl),trivial⟩ rfl rfl rfl (r_end ?_))
    refine Au 6 (sT [(22,jI r1_4_8),(25,jI r1_4_9),(27,jI r1_4_10),(50,.d (.bool r0_2_10)),(51,.d (.bool r0_2_11)),pR 52 40] [(40,.var 33 [jI r0_2_12.Low,jI r0_2_12.High])] 41 0) ?_
    refine RW.nil (hQ_127 _ ?_)
    refine AW.srwK (fun Q_130 hQ_130=>?_)
    obtain ⟨r0_11_17,hx_131,h⟩:=bsome h
    refine rC (k26a _ hx_131) ?_
    obtain ⟨⟨r0_3_3,r1_3_2⟩,hx_132,h⟩:=bsome h
    refine rC (k31 r0_11_17 _ hx_132) ?_
    refine Au 5 (sT [(22,jI r1_4_8),(25,jI r1_4_9),(27,jI r1_4_10),(29,jI r1_3_2),(50,.d (.bool r0_2_10)),(51,.d (.bool r0_2_11)),pR 52 40,(53,.d (.sl 1 (List.map e3 r0_3_3)))] [(40,.var 33 [jI r0_2_12.Low,jI r0_2_12.High])] 41 0) ?_
    refine RW.nil (hQ_130 _ ?_)
    refine AW.srwK (fun Q_133 hQ_133=>?_)
    obtain ⟨r0_11_18,hx_134,h⟩:=bsome h
    refine rC (k26a _ hx_134) ?_
    obtain ⟨⟨r0_2_13,r1_1_2⟩,hx_135,h⟩:=bsome h
    refine rC (k32 r0_11_18 _ hx_135) ?_
    refine Au 5 (sT [(22,jI r1_4_8),(25,jI r1_4_9),(27,jI r1_4_10),(29,jI r1_3_2),(31,jI r1_1_2),(50,.d (.bool r0_2_10)),(51,.d (.bool r0_2_11)),pR 52 40,(53,.d (.sl 1 (List.map e3 r0_3_3))),(54,.d (.sl 1 (List.map e3 r0_2_13)))] [(40,.var 33 [jI r0_2_12.Low,jI r0_2_12.High])] 41 0) ?_
    refine RW.nil (hQ_133 _ ?_)
    refine AW.srwK (fun Q_136 hQ_136=>?_)
    obtain ⟨r0_11_19,hx_137,h⟩:=bsome h
    refine rC (k26a _ hx_137) ?_
    obtain ⟨⟨r0_5_3,r1_6_3⟩,hx_138,h⟩:=bsome h
    refine rC (k33 r0_11_19 9 _ hx_138) ?_
    refine Au 5 (sT [(22,jI r1_4_8),(25,jI r1_4_9),(27,jI r1_4_10),(29,jI r1_3_2),(31,jI r1_1_2),(33,jI r1_6_3),(50,.d (.bool r0_2_10)),(51,.d (.bool r0_2_11)),pR 52 40,(53,.d (.sl 1 (List.map e3 r0_3_3))),(54,.d (.sl 1 (List.map e3 r0_2_13))),(55,jI r0_5_3)] [(40,.var 33 [jI r0_2_12.Low,jI r0_2_12.High])] 41 0) ?_
    refine RW.nil (hQ_136 _ ?_)
    refine AW.srwK (fun Q_139 hQ_139=>?_)
    obtain ⟨r0_11_20,hx_140,h⟩:=bsome h
    refine rC (k26a _ hx_140) ?_
    obtain ⟨⟨r0_1_2,r1_1_3⟩,hx_141,h⟩:=bsome h
    refine rC (k34 r0_11_20 _ hx_141) ?_
    refine Au 5 (sT [(22,jI r1_4_8),(25,jI r1_4_9),(27,jI r1_4_10),(29,jI r1_3_2),(31,jI r1_1_2),(33,jI r1_6_3),(35,jI r1_1_3),(50,.d (.bool r0_2_10)),(51,.d (.bool r0_2_11)),pR 52 40,(53,.d (.sl 1 (List.map e3 r0_3_3))),(54,.d (.sl 1 (List.map e3 r0_2_13))),(55,jI r0_5_3),(56,.d (.bool r0_1_2))] [(40,.var 33 [jI r0_2_12.Low,jI r0_2_12.High])] 41 0) ?_
    refine RW.nil (hQ_139 _ ?_)
    refine AW.srwK (fun Q_142 hQ_142=>?_)
    refine Au 1 (sT [(22,jI r1_4_8),(25,jI r1_4_9),(27,jI r1_4_10),(29,jI r1_3_2),(31,jI r1_1_2),(33,jI r1_6_3),(35,jI r1_1_3),(50,.d (.bool r0_2_10)),(51,.d (.bool r0_2_11)),pR 52 40,(53,.d (.sl 1 (List.map e3 r0_3_3))),(54,.d (.sl 1 (List.map e3 r0_2_13))),(55,jI r0_5_3),(56,.d (.bool r0_1_2)),(448,.agg [.d (.nilSl),.d (.nilSl),jI 0,jI 0,jI 0])] [(40,.var 33 [jI r0_2_12.Low,jI r0_2_12.High])] 41 0) ?_
    obtain ⟨⟨r0_3_4,r1_3_3⟩,hx_143,h⟩:=bsome h
    refine RW.one fokW (r_callZ (zr:=[]) trivial rfl (k31 (HairBook.mk [] [] 0 0 0) _ hx_143) trivial ⟨(Frz.agg_of ⟨(.nil 4),(.nil 3),.refl _,.refl _,.refl _,trivial⟩),trivial⟩ rfl rfl rfl rfl (r_end ?_))
    refine Au 5 (sT [(22,jI r1_4_8),(25,jI r1_4_9),(27,jI r1_4_10),(29,jI r1_3_2),(31,jI r1_1_2),(33,jI r1_6_3),(35,jI r1_1_3),(37,jI r1_3_3),(50,.d (.bool r0_2_10)),(51,.d (.bool r0_2_11)),pR 52 40,(53,.d (.sl 1 (List.map e3 r0_3_3))),(54,.d (.sl 1 (List.map e3 r0_2_13))),(55,jI r0_5_3),(56,.d (.bool r0_1_2)),(57,.d (.sl 1 (List.map e3 r0_3_4)))] [(40,.var 33 [jI r0_2_12.Low,jI r0_2_12.High])] 41 0) ?_
    refine RW.nil (hQ_142 _ ?_)
    refine AW.srwK (fun Q_144 hQ_144=>?_)
    refine Au 1 (sT [(22,jI r1_4_8),(25,jI r1_4_9),(27,jI r1_4_10),(29,jI r1_3_2),(31,jI r1_1_2),(33,jI r1_6_3),(35,jI r1_1_3),(37,jI r1_3_3),(50,.d (.bool r0_2_10)),(51,.d (.bool r0_2_11)),pR 52 40,(53,.d (.sl 1 (List.map e3 r0_3_3))),(54,.d (.sl 1 (List.map e3 r0_2_13))),(55,jI r0_5_3),(56,.d (.bool r0_1_2)),(57,.d (.sl 1 (List.map e3 r0_3_4))),(453,.agg [.d (.nilSl),.d (.nilSl),jI 0,jI 0,jI 0])] [(40,.var 33 [jI r0_2_12.Low,jI r0_2_12.High])] 41 0) ?_
    obtain ⟨⟨r0_2_14,r1_4_11⟩,hx_145,h⟩:=bsome h
    refine RW.one fokW (r_callZ (zr:=[]) trivial rfl (k30 (HairBook.mk [] [] 0 0 0) ([]:(List Int)) _ hx_145) trivial ⟨(Frz.agg_of ⟨(.nil 4),(.nil 3),.refl _,.refl _,.refl _,trivial⟩),(.nil 1),trivial⟩ rfl rfl rfl rfl (r_end ?_))
    refine Au 6 (sT [(22,jI r1_4_8),(25,jI r1_4_9),(27,jI r1_4_10),(29,jI r1_3_2),(31,jI r1_1_2),(33,jI r1_6_3),(35,jI r1_1_3),(37,jI r1_3_3),(40,jI r1_4_11),(50,.d (.bool r0_2_10)),(51,.d (.bool r0_2_11)),pR 52 40,(53,.d (.sl 1 (List.map e3 r0_3_3))),(54,.d (.sl 1 (List.map e3 r0_2_13))),(55,jI r0_5_3),(56,.d (.bool r0_1_2)),(57,.d (.sl 1 (List.map e3 r0_3_4))),pR 58 41] [(41,.var 33 [jI r0_2_14.Low,jI r0_2_14.High]),(40,.var 33 [jI r0_2_12.Low,jI r0_2_12.High])] 42 0) ?_
    refine RW.nil (hQ_144 _ ?_)
    refine AW.srwK (fun Q_146 hQ_146=>?_)
    refine Au 1 (sT [(22,jI r1_4_8),(25,jI r1_4_9),(27,jI r1_4_10),(29,jI r1_3_2),(31,jI r1_1_2),(33,jI r1_6_3),(35,jI r1_1_3),(37,jI r1_3_3),(40,jI r1_4_11),(50,.d (.bool r0_2_10)),(51,.d (.bool r0_2_11)),pR 52 40,(53,.d (.sl 1 (List.map e3 r0_3_3))),(54,.d (.sl 1 (List.map e3 r0_2_13))),(55,jI r0_5_3),(56,.d (.bool r0_1_2)),(57,.d (.sl 1 (List.map e3 r0_3_4))),pR 58 41,(458,.agg [.d (.nilSl),.d (.nilSl),jI 0,jI 0,jI 0])] [(41,.var 33 [jI r0_2_14.Low,jI r0_2_14.High]),(40,.var 33 [jI r0_2_12.Low,jI r0_2_12.High])] 42 0) ?_
    obtain ⟨⟨r0_1_3,r1_1_4⟩,hx_147,h⟩:=bsome h
    refine RW.one fokW (r_callZ (zr:=[]) trivial rfl (k34 (HairBook.mk [] [] 0 0 0) _ hx_147) trivial ⟨(Frz.agg_of ⟨(.nil 4),(.nil 3),.refl _,.refl _,.refl _,trivial⟩),trivial⟩ rfl rfl rfl rfl (r_end ?_))
    refine Au 5 (sT [(22,jI r1_4_8),(25,jI r1_4_9),(27,jI r1_4_10),(29,jI r1_3_2),(31,jI r1_1_2),(33,jI r1_6_3),(35,jI r1_1_3),(37,jI r1_3_3),(40,jI r1_4_11),(42,jI r1_1_4),(50,.d (.bool r0_2_10)),(51,.d (.bool r0_2_11)),pR 52 40,(53,.d (.sl 1 (List.map e3 r0_3_3))),(54,.d (.sl 1 (List.map e3 r0_2_13))),(55,jI r0_5_3),(56,.d (.bool r0_1_2)),(57,.d (.sl 1 (List.map e3 r0_3_4))),pR 58 41,(59,.d (.bool r0_1_3))] [(41,.var 33 [jI r0_2_14.Low,jI r0_2_14.High]),(40,.var 33 [jI r0_2_12.Low,jI r0_2_12.High])] 42 0) ?_
    refine RW.nil (hQ_146 _ ?_)
    obtain ⟨t,hx_148,h⟩:=bsome h
    refine AW.jnSK (fun (t:Bool)=>(sT [(0,.d (.bool t))] [] 42 0)) (c:=t) (fun K_148 hK_148=>?_) ?_
    ·have h:=hx_148
     refine AW.drw fokW ?_
     refine aX 3 (sT [(25,jI r1_4_9),(27,jI r1_4_10),(29,jI r1_3_2),(31,jI r1_1_2),(33,jI r1_6_3),(35,jI r1_1_3),(37,jI r1_3_3),(40,jI r1_4_11),(42,jI r1_1_4),(50,.d (.bool r0_2_10)),(51,.d (.bool r0_2_11)),pR 52 40,(53,.d (.sl 1 (List.map e3 r0_3_3))),(54,.d (.sl 1 (List.map e3 r0_2_13))),(55,jI r0_5_3),(56,.d (.bool r0_1_2)),(57,.d (.sl 1 (List.map e3 r0_3_4))),pR 58 41,(59,.d (.bool r0_1_3)),(464,.d (.bool (decide (r1_4_8=0))))] [(41,.var 33 [jI r0_2_14.Low,jI r0_2_14.High]),(40,.var 33 [jI r0_2_12.Low,jI r0_2_12.High])] 42 0) ?_
     refine r_split 464 rfl (fun hb_150=>?_) (fun hb_150=>?_)
     ·have h:=ifT hb_150 h
      refine aX 3 (sT [(25,jI r1_4_9),(27,jI r1_4_10),(29,jI r1_3_2),(31,jI r1_1_2),(33,jI r1_6_3),(35,jI r1_1_3),(37,jI r1_3_3),(40,jI r1_4_11),(42,jI r1_1_4),(51,.d (.bool r0_2_11)),pR 52 40,(53,.d (.sl 1 (List.map e3 r0_3_3))),(54,.d (.sl 1 (List.map e3 r0_2_13))),(55,jI r0_5_3),(56,.d (.bool r0_1_2)),(57,.d (.sl 1 (List.map e3 r0_3_4))),pR 58 41,(59,.d (.bool r0_1_3)),(467,.d (.bool r0_2_10))] [(41,.var 33 [jI r0_2_14.Low,jI r0_2_14.High]),(40,.var 33 [jI r0_2_12.Low,jI r0_2_12.High])] 42 0) ?_
      refine r_split 467 rfl (fun hb_151=>?_) (fun hb_151=>?_)
      ·have h:=ifT hb_151 h
       refine aX 4 (sT [(27,jI r1_4_10),(29,jI r1_3_2),(31,jI r1_1_2),(33,jI r1_6_3),(35,jI r1_1_3),(37,jI r1_3_3),(40,jI r1_4_11),(42,jI r1_1_4),(51,.d (.bool r0_2_11)),pR 52 40,(53,.d (.sl 1 (List.map e3 r0_3_3))),(54,.d (.sl 1 (List.map e3 r0_2_13))),(55,jI r0_5_3),(56,.d (.bool r0_1_2)),(57,.d (.sl 1 (List.map e3 r0_3_4))),pR 58 41,(59,.d (.bool r0_1_3)),(471,.d (.bool (decide (r1_4_9=0))))] [(41,.var 33 [jI r0_2_14.Low,jI r0_2_14.High]),(40,.var 33 [jI r0_2_12.Low,jI r0_2_12.High])] 42 0) ?_
       refine r_split 471 rfl (fun hb_152=>?_) (fun hb_152=>?_)
       ·have h:=ifT hb_152 h
        refine aX 4 (sT [(27,jI r1_4_10),(29,jI r1_3_2),(31,jI r1_1_2),(33,jI r1_6_3),(35,jI r1_1_3),(37,jI r1_3_3),(40,jI r1_4_11),(42,jI r1_1_4),pR 52 40,(53,.d (.sl 1 (List.map e3 r0_3_3))),(54,.d (.sl 1 (List.map e3 r0_2_13))),(55,jI r0_5_3),(56,.d (.bool r0_1_2)),(57,.d (.sl 1 (List.map e3 r0_3_4))),pR 58 41,(59,.d (.bool r0_1_3)),(475,.d (.bool (!r0_2_11)))] [(41,.var 33 [jI r0_2_14.Low,jI r0_2_14.High]),(40,.var 33 [jI r0_2_12.Low,jI r0_2_12.High])] 42 0) ?_
        refine r_split 475 rfl (fun hb_153=>?_) (fun hb_153=>?_)
        ·have h:=ifT hb_153 h
         refine aX 4 (sT [(29,jI r1_3_2),(31,jI r1_1_2),(33,jI r1_6_3),(35,jI r1_1_3),(37,jI r1_3_3),(40,jI r1_4_11),(42,jI r1_1_4),pR 52 40,(53,.d (.sl 1 (List.map e3 r0_3_3))),(54,.d (.sl 1 (List.map e3 r0_2_13))),(55,jI r0_5_3),(56,.d (.bool r0_1_2)),(57,.d (.sl 1 (List.map e3 r0_3_4))),pR 58 41,(59,.d (.bool r0_1_3)),(479,.d (.bool (decide (r1_4_10=0))))] [(41,.var 33 [jI r0_2_14.Low,jI r0_2_14.High]),(40,.var 33 [jI r0_2_12.Low,jI r0_2_12.High])] 42 0) ?_
         refine r_split 479 rfl (fun hb_154=>?_) (fun hb_154=>?_)
         ·have h:=ifT hb_154 h
          refine aX 1 (sT [(29,jI r1_3_2),(31,jI r1_1_2),(33,jI r1_6_3),(35,jI r1_1_3),(37,jI r1_3_3),(40,jI r1_4_11),(42,jI r1_1_4),(53,.d (.sl 1 (List.map e3 r0_3_3))),(54,.d (.sl 1 (List.map e3 r0_2_13))),(55,jI r0_5_3),(56,.d (.bool r0_1_2)),(57,.d (.sl 1 (List.map e3 r0_3_4))),pR 58 41,(59,.d (.bool r0_1_3)),(479,.d (.bool true)),(480,.agg [jI r0_2_12.Low,jI r0_2_12.High])] [(41,.var 33 [jI r0_2_14.Low,jI r0_2_14.High]),(40,.var 33 [jI r0_2_12.Low,jI r0_2_12.High])] 42 0) ?_
          obtain ⟨r0_8,hx_155,h⟩:=bsome h
          refine r_call rfl rfl (k10 0 2 _ hx_155) rfl rfl ?_
          refine r_aeq rfl rfl rfl rfl rfl ft33 rfl rfl rfl ?_
          refine aX 2 (sT [(29,jI r1_3_2),(31,jI r1_1_2),(33,jI r1_6_3),(35,jI r1_1_3),(37,jI r1_3_3),(40,jI r1_4_11),(42,jI r1_1_4),(53,.d (.sl 1 (List.map e3 r0_3_3))),(54,.d (.sl 1 (List.map e3 r0_2_13))),(55,jI r0_5_3),(56,.d (.bool r0_1_2)),(57,.d (.sl 1 (List.map e3 r0_3_4))),pR 58 41,(59,.d (.bool r0_1_3)),(484,.d (.bool (false != ((r0_2_12.Low==r0_8.Low)&&((r0_2_12.High==r0_8.High)&&true)))))] [(41,.var 33 [jI r0_2_14.Low,jI r0_2_14.High]),(40,.var 33 [jI r0_2_12.Low,jI r0_2_12.High])] 42 0) ?_
          refine r_split 484 rfl (fun hb_156=>?_) (fun hb_156=>?_)
          ·have h:=ifT hb_156 h
           refine aX 4 (sT [(31,jI r1_1_2),(33,jI r1_6_3),(35,jI r1_1_3),(37,jI r1_3_3),(40,jI r1_4_11),(42,jI r1_1_4),(53,.d (.sl 1 (List.map e3 r0_3_3))),(54,.d (.sl 1 (List.map e3 r0_2_13))),(55,jI r0_5_3),(56,.d (.bool r0_1_2)),(57,.d (.sl 1 (List.map e3 r0_3_4))),pR 58 41,(59,.d (.bool r0_1_3)),(488,.d (.bool (decide (r1_3_2=0))))] [(41,.var 33 [jI r0_2_14.Low,jI r0_2_14.High]),(40,.var 33 [jI r0_2_12.Low,jI r0_2_12.High])] 42 0) ?_
           refine r_split 488 rfl (fun hb_157=>?_) (fun hb_157=>?_)
           ·have h:=ifT hb_157 h
            refine aX 2 (sT [(31,jI r1_1_2),(33,jI r1_6_3),(35,jI r1_1_3),(37,jI r1_3_3),(40,jI r1_4_11),(42,jI r1_1_4),(54,.d (.sl 1 (List.map e3 r0_2_13))),(55,jI r0_5_3),(56,.d (.bool r0_1_2)),(57,.d (.sl 1 (List.map e3 r0_3_4))),pR 58 41,(59,.d (.bool r0_1_3)),(488,.d (.bool true)),(489,.d (.sl 1 (List.map e3 r0_3_3))),(490,.own 42 (List.map e3 [0,0,1,1]).length)] [(42,.row 3 1 (List.map e3 [0,0,1,1])),(41,.var 33 [jI r0_2_14.Low,jI r0_2_14.High]),(40,.var 33 [jI r0_2_12.Low,jI r0_2_12.High])] 43 0) ?_
            obtain ⟨r0_10,hx_158,h⟩:=bsome h
            refine r_callF (rs:=[(42,.row 3 1 (List.map e3 [0,0,1,1]))]) rfl rfl (k37 r0_3_3 [0,0,1,1] _ hx_158) ⟨rfl,trivial⟩ ⟨.refl _,(.own rfl rfl),trivial⟩ rfl rfl rfl ?_
            refine aX 2 (sT [(31,jI r1_1_2),(33,jI r1_6_3),(35,jI r1_1_3),(37,jI r1_3_3),(40,jI r1_4_11),(42,jI r1_1_4),(54,.d (.sl 1 (List.map e3 r0_2_13))),(55,jI r0_5_3),(56,.d (.bool r0_1_2)),(57,.d (.sl 1 (List.map e3 r0_3_4))),pR 58 41,(59,.d (.bool r0_1_3)),(493,.d (.bool r0_10))] [(42,.row 3 1 (List.map e3 [0,0,1,1])),(41,.var 33 [jI r0_2_14.Low,jI r0_2_14.High]),(40,.var 33 [jI r0_2_12.Low,jI r0_2_12.High])] 43 0) ?_
            refine r_split 493 rfl (fun hb_159=>?_) (fun hb_159=>?_)
            ·have h:=ifT hb_159 h
             refine aX 4 (sT [(33,jI r1_6_3),(35,jI r1_1_3),(37,jI r1_3_3),(40,jI r1_4_11),(42,jI r1_1_4),(54,.d (.sl 1 (List.map e3 r0_2_13))),(55,jI r0_5_3),(56,.d (.bool r0_1_2)),(57,.d (.sl 1 (List.map e3 r0_3_4))),pR 58 41,(59,.d (.bool r0_1_3)),(497,.d (.bool (decide (r1_1_2=0))))] [(42,.row 3 1 (List.map e3 [0,0,1,1])),(41,.var 33 [jI r0_2_14.Low,jI r0_2_14.High]),(40,.var 33 [jI r0_2_12.Low,jI r0_2_12.High])] 43 0) ?_
             refine r_split 497 rfl (fun hb_160=>?_) (fun hb_160=>?_)
             ·have h:=ifT hb_160 h
              refine aX 1 (sT [(33,jI r1_6_3),(35,jI r1_1_3),(37,jI r1_3_3),(40,jI r1_4_11),(42,jI r1_1_4),(55,jI r0_5_3),(56,.d (.bool r0_1_2)),(57,.d (.sl 1 (List.map e3 r0_3_4))),pR 58 41,(59,.d (.bool r0_1_3)),(497,.d (.bool true)),(498,.d (.sl 1 (List.map e3 r0_2_13)))] [(42,.row 3 1 (List.map e3 [0,0,1,1])),(41,.var 33 [jI r0_2_14.Low,jI r0_2_14.High]),(40,.var 33 [jI r0_2_12.Low,jI r0_2_12.High])] 43 0) ?_
              refine r_lenX rfl rfl lenm ?_
              refine aX 3 (sT [(33,jI r1_6_3),(35,jI r1_1_3),(37,jI r1_3_3),(40,jI r1_4_11),(42,jI r1_1_4),(55,jI r0_5_3),(56,.d (.bool r0_1_2)),(57,.d (.sl 1 (List.map e3 r0_3_4))),pR 58 41,(59,.d (.bool r0_1_3)),(502,.d (.bool (decide ((r0_2_13.length:Int)=0))))] [(42,.row 3 1 (List.map e3 [0,0,1,1])),(41,.var 33 [jI r0_2_14.Low,jI r0_2_14.High]),(40,.var 33 [jI r0_2_12.Low,jI r0_2_12.High])] 43 0) ?_
              refine r_split 502 rfl (fun hb_161=>?_) (fun hb_161=>?_)
              ·have h:=ifT hb_161 h
               refine aX 4 (sT [(35,jI r1_1_3),(37,jI r1_3_3),(40,jI r1_4_11),(42,jI r1_1_4),(55,jI r0_5_3),(56,.d (.bool r0_1_2)),(57,.d (.sl 1 (List.map e3 r0_3_4))),pR 58 41,(59,.d (.bool r0_1_3)),(506,.d (.bool (decide (r1_6_3=0))))] [(42,.row 3 1 (List.map e3 [0,0,1,1])),(41,.var 33 [jI r0_2_14.Low,jI r0_2_14.High]),(40,.var 33 [jI r0_2_12.Low,jI r0_2_12.High])] 43 0) ?_
               refine r_split 506 rfl (fun hb_162=>?_) (fun hb_162=>?_)
               ·have h:=ifT hb_162 h
                refine aX 4 (sT [(35,jI r1_1_3),(37,jI r1_3_3),(40,jI r1_4_11),(42,jI r1_1_4),(56,.d (.bool r0_1_2)),(57,.d (.sl 1 (List.map e3 r0_3_4))),pR 58 41,(59,.d (.bool r0_1_3)),(510,.d (.bool (decide (r0_5_3=0))))] [(42,.row 3 1 (List.map e3 [0,0,1,1])),(41,.var 33 [jI r0_2_14.Low,jI r0_2_14.High]),(40,.var 33 [jI r0_2_12.Low,jI r0_2_12.High])] 43 0) ?_
                refine r_split 510 rfl (fun hb_163=>?_) (fun hb_163=>?_)
                ·have h:=ifT hb_163 h
                 refine aX 4 (sT [(37,jI r1_3_3),(40,jI r1_4_11),(42,jI r1_1_4),(56,.d (.bool r0_1_2)),(57,.d (.sl 1 (List.map e3 r0_3_4))),pR 58 41,(59,.d (.bool r0_1_3)),(514,.d (.bool (decide (r1_1_3=0))))] [(42,.row 3 1 (List.map e3 [0,0,1,1])),(41,.var 33 [jI r0_2_14.Low,jI r0_2_14.High]),(40,.var 33 [jI r0_2_12.Low,jI r0_2_12.High])] 43 0) ?_
                 refine r_split 514 rfl (fun hb_164=>?_) (fun hb_164=>?_)
                 ·have h:=ifT hb_164 h
                  refine aX 3 (sT [(37,jI r1_3_3),(40,jI r1_4_11),(42,jI r1_1_4),(57,.d (.sl 1 (List.map e3 r0_3_4))),pR 58 41,(59,.d (.bool r0_1_3)),(517,.d (.bool r0_1_2))] [(42,.row 3 1 (List.map e3 [0,0,1,1])),(41,.var 33 [jI r0_2_14.Low,jI r0_2_14.High]),(40,.var 33 [jI r0_2_12.Low,jI r0_2_12.High])] 43 0) ?_
                  refine r_split 517 rfl (fun hb_165=>?_) (fun hb_165=>?_)
                  ·have h:=ifT hb_165 h
                   refine aX 4 (sT [(40,jI r1_4_11),(42,jI r1_1_4),(57,.d (.sl 1 (List.map e3 r0_3_4))),pR 58 41,(59,.d (.bool r0_1_3)),(521,.d (.bool (decide (r1_3_3=0))))] [(42,.row 3 1 (List.map e3 [0,0,1,1])),(41,.var 33 [jI r0_2_14.Low,jI r0_2_14.High]),(40,.var 33 [jI r0_2_12.Low,jI r0_2_12.High])] 43 0) ?_
                   refine r_split 521 rfl (fun hb_166=>?_) (fun hb_166=>?_)
                   ·have h:=ifT hb_166 h
                    refine aX 1 (sT [(40,jI r1_4_11),(42,jI r1_1_4),pR 58 41,(59,.d (.bool r0_1_3)),(521,.d (.bool true)),(522,.d (.sl 1 (List.map e3 r0_3_4)))] [(42,.row 3 1 (List.map e3 [0,0,1,1])),(41,.var 33 [jI r0_2_14.Low,jI r0_2_14.High]),(40,.var 33 [jI r0_2_12.Low,jI r0_2_12.High])] 43 0) ?_
                    refine r_lenX rfl rfl lenm ?_
                    refine aX 3 (sT [(40,jI r1_4_11),(42,jI r1_1_4),pR 58 41,(59,.d (.bool r0_1_3)),(526,.d (.bool (decide ((r0_3_4.length:Int)=0))))] [(42,.row 3 1 (List.map e3 [0,0,1,1])),(41,.var 33 [jI r0_2_14.Low,jI r0_2_14.High]),(40,.var 33 [jI r0_2_12.Low,jI r0_2_12.High])] 43 0) ?_
                    refine r_split 526 rfl (fun hb_167=>?_) (fun hb_167=>?_)
                    ·have h:=ifT hb_167 h
                     refine aX 4 (sT [(42,jI r1_1_4),pR 58 41,(59,.d (.bool r0_1_3)),(530,.d (.bool (decide (r1_4_11=0))))] [(42,.row 3 1 (List.map e3 [0,0,1,1])),(41,.var 33 [jI r0_2_14.Low,jI r0_2_14.High]),(40,.var 33 [jI r0_2_12.Low,jI r0_2_12.High])] 43 0) ?_
                     refine r_split 530 rfl (fun hb_168=>?_) (fun hb_168=>?_)
                     ·have h:=ifT hb_168 h
                      refine aX 1 (sT [(42,jI r1_1_4),(59,.d (.bool r0_1_3)),(530,.d (.bool true)),(531,.agg [jI r0_2_14.Low,jI r0_2_14.High])] [(42,.row 3 1 (List.map e3 [0,0,1,1])),(41,.var 33 [jI r0_2_14.Low,jI r0_2_14.High]),(40,.var 33 [jI r0_2_12.Low,jI r0_2_12.High])] 43 0) ?_
                      obtain ⟨r0_12,hx_169,h⟩:=bsome h
                      refine r_call rfl rfl (k24 0 _ hx_169) rfl rfl ?_
                      refine r_aeq rfl rfl rfl rfl rfl ft33 rfl rfl rfl ?_
                      refine aX 2 (sT [(42,jI r1_1_4),(59,.d (.bool r0_1_3)),(535,.d (.bool (false != ((r0_2_14.Low==r0_12.Low)&&((r0_2_14.High==r0_12.High)&&true)))))] [(42,.row 3 1 (List.map e3 [0,0,1,1])),(41,.var 33 [jI r0_2_14.Low,jI r0_2_14.High]),(40,.var 33 [jI r0_2_12.Low,jI r0_2_12.High])] 43 0) ?_
                      refine r_split 535 rfl (fun hb_170=>?_) (fun hb_170=>?_)
                      ·have h:=ifT hb_170 h
                       refine aX 4 (sT [(59,.d (.bool r0_1_3)),(539,.d (.bool (decide (r1_1_4=0))))] [(42,.row 3 1 (List.map e3 [0,0,1,1])),(41,.var 33 [jI r0_2_14.Low,jI r0_2_14.High]),(40,.var 33 [jI r0_2_12.Low,jI r0_2_12.High])] 43 0) ?_
                       refine r_split 539 rfl (fun hb_171=>?_) (fun hb_171=>?_)
                       ·have h:=ifT hb_171 h
                        refine aX 3 (sT [(542,.d (.bool r0_1_3))] [(42,.row 3 1 (List.map e3 [0,0,1,1])),(41,.var 33 [jI r0_2_14.Low,jI r0_2_14.High]),(40,.var 33 [jI r0_2_12.Low,jI r0_2_12.High])] 43 0) ?_
                        refine r_pickB trivial rfl rfl rfl ?_
                        refine aX 1 (sT [(544,.d (.bool r0_1_3))] [(42,.row 3 1 (List.map e3 [0,0,1,1])),(41,.var 33 [jI r0_2_14.Low,jI r0_2_14.High]),(40,.var 33 [jI r0_2_12.Low,jI r0_2_12.High])] 43 0) ?_
                        refine r_split 544 rfl (fun hb_172=>?_) (fun hb_172=>?_)
                        ·have h:=ifT hb_172 h
                         obtain ⟨r0_13,hx_173,h⟩:=bsome h
                         refine r_call rfl rfl (k38 _ hx_173) rfl rfl ?_
                         refine aX 2 (sT [(0,.d (.bool r0_13))] [(42,.row 3 1 (List.map e3 [0,0,1,1])),(41,.var 33 [jI r0_2_14.Low,jI r0_2_14.High]),(40,.var 33 [jI r0_2_12.Low,jI r0_2_12.High])] 43 0) ?_
                         refine RunC.fin2 (sT [(0,.d (.bool r0_13))] [] 43 0) (by kernel_rfl) (by kernel_rfl) ?_
                         obtain rfl:=Option.some.inj h
                         exact hK_148 _ (Can.kp (by kernel_rfl))
                        ·have h:=ifF hb_172 h
                         refine aX 3 (sT [(0,.d (.bool false))] [(42,.row 3 1 (List.map e3 [0,0,1,1])),(41,.var 33 [jI r0_2_14.Low,jI r0_2_14.High]),(40,.var 33 [jI r0_2_12.Low,jI r0_2_12.High])] 43 0) ?_
                         refine RunC.fin2 (sT [(0,.d (.bool false))] [] 43 0) (by kernel_rfl) (by kernel_rfl) ?_
                         obtain rfl:=Option.some.inj h
                         exact hK_148 _ (Can.kp (by kernel_rfl))
                       ·have h:=ifF hb_171 h
                        refine aX 8 (sT [(0,.d (.bool false))] [(42,.row 3 1 (List.map e3 [0,0,1,1])),(41,.var 33 [jI r0_2_14.Low,jI r0_2_14.High]),(40,.var 33 [jI r0_2_12.Low,jI r0_2_12.High])] 43 0) ?_
                        refine RunC.fin2 (sT [(0,.d (.bool false))] [] 43 0) (by kernel_rfl) (by kernel_rfl) ?_
                        obtain rfl:=Option.some.inj h
                        exact hK_148 _ (Can.kp (by kernel_rfl))
                      ·have h:=ifF hb_170 h
                       refine aX 12 (sT [(0,.d (.bool false))] [(42,.row 3 1 (List.map e3 [0,0,1,1])),(41,.var 33 [jI r0_2_14.Low,jI r0_2_14.High]),(40,.var 33 [jI r0_2_12.Low,jI r0_2_12.High])] 43 0) ?_
                       refine RunC.fin2 (sT [(0,.d (.bool false))] [] 43 0) (by kernel_rfl) (by kernel_rfl) ?_
                       obtain rfl:=Option.some.inj h
                       exact hK_148 _ (Can.kp (by kernel_rfl))
                     ·have h:=ifF hb_168 h
                      refine aX 17 (sT [(0,.d (.bool false))] [(42,.row 3 1 (List.map e3 [0,0,1,1])),(41,.var 33 [jI r0_2_14.Low,jI r0_2_14.High]),(40,.var 33 [jI r0_2_12.Low,jI r0_2_12.High])] 43 0) ?_
                      refine RunC.fin2 (sT [(0,.d (.bool false))] [] 43 0) (by kernel_rfl) (by kernel_rfl) ?_
                      obtain rfl:=Option.some.inj h
                      exact hK_148 _ (Can.kp (by kernel_rfl))
                    ·have h:=ifF hb_167 h
                     refine aX 21 (sT [(0,.d (.bool false))] [(42,.row 3 1 (List.map e3 [0,0,1,1])),(41,.var 33 [jI r0_2_14.Low,jI r0_2_14.High]),(40,.var 33 [jI r0_2_12.Low,jI r0_2_12.High])] 43 0) ?_
                     refine RunC.fin2 (sT [(0,.d (.bool false))] [] 43 0) (by kernel_rfl) (by kernel_rfl) ?_
                     obtain rfl:=Option.some.inj h
                     exact hK_148 _ (Can.kp (by kernel_rfl))
                   ·have h:=ifF hb_166 h
                    refine aX 26 (sT [(0,.d (.bool false))] [(42,.row 3 1 (List.map e3 [0,0,1,1])),(41,.var 33 [jI r0_2_14.Low,jI r0_2_14.High]),(40,.var 33 [jI r0_2_12.Low,jI r0_2_12.High])] 43 0) ?_
                    refine RunC.fin2 (sT [(0,.d (.bool false))] [] 43 0) (by kernel_rfl) (by kernel_rfl) ?_
                    obtain rfl:=Option.some.inj h
                    exact hK_148 _ (Can.kp (by kernel_rfl))
                  ·have h:=ifF hb_165 h
                   refine aX 30 (sT [(0,.d (.bool false))] [(42,.row 3 1 (List.map e3 [0,0,1,1])),(41,.var 33 [jI r0_2_14.Low,jI r0_2_14.High]),(40,.var 33 [jI r0_2_12.Low,jI r0_2_12.High])] 43 0) ?_
                   refine RunC.fin2 (sT [(0,.d (.bool false))] [] 43 0) (by kernel_rfl) (by kernel_rfl) ?_
                   obtain rfl:=Option.some.inj h
                   exact hK_148 _ (Can.kp (by kernel_rfl))
                 ·have h:=ifF hb_164 h
                  refine aX 33 (sT [(0,.d (.bool false))] [(42,.row 3 1 (List.map e3 [0,0,1,1])),(41,.var 33 [jI r0_2_14.Low,jI r0_2_14.High]),(40,.var 33 [jI r0_2_12.Low,jI r0_2_12.High])] 43 0) ?_
                  refine RunC.fin2 (sT [(0,.d (.bool false))] [] 43 0) (by kernel_rfl) (by kernel_rfl) ?_
                  obtain rfl:=Option.some.inj h
                  exact hK_148 _ (Can.kp (by kernel_rfl))
                ·have h:=ifF hb_163 h
                 refine aX 37 (sT [(0,.d (.bool false))] [(42,.row 3 1 (List.map e3 [0,0,1,1])),(41,.var 33 [jI r0_2_14.Low,jI r0_2_14.High]),(40,.var 33 [jI r0_2_12.Low,jI r0_2_12.High])] 43 0) ?_
                 refine RunC.fin2 (sT [(0,.d (.bool false))] [] 43 0) (by kernel_rfl) (by kernel_rfl) ?_
                 obtain rfl:=Option.some.inj h
                 exact hK_148 _ (Can.kp (by kernel_rfl))
               ·have h:=ifF hb_162 h
                refine aX 41 (sT [(0,.d (.bool false))] [(42,.row 3 1 (List.map e3 [0,0,1,1])),(41,.var 33 [jI r0_2_14.Low,jI r0_2_14.High]),(40,.var 33 [jI r0_2_12.Low,jI r0_2_12.High])] 43 0) ?_
                refine RunC.fin2 (sT [(0,.d (.bool false))] [] 43 0) (by kernel_rfl) (by kernel_rfl) ?_
                obtain rfl:=Option.some.inj h
                exact hK_148 _ (Can.kp (by kernel_rfl))
              ·have h:=ifF hb_161 h
               refine aX 45 (sT [(0,.d (.bool false))] [(42,.row 3 1 (List.map e3 [0,0,1,1])),(41,.var 33 [jI r0_2_14.Low,jI r0_2_14.High]),(40,.var 33 [jI r0_2_12.Low,jI r0_2_12.High])] 43 0) ?_
               refine RunC.fin2 (sT [(0,.d (.bool false))] [] 43 0) (by kernel_rfl) (by kernel_rfl) ?_
               obtain rfl:=Option.some.inj h
               exact hK_148 _ (Can.kp (by kernel_rfl))
             ·have h:=ifF hb_160 h
              refine aX 50 (sT [(0,.d (.bool false))] [(42,.row 3 1 (List.map e3 [0,0,1,1])),(41,.var 33 [jI r0_2_14.Low,jI r0_2_14.High]),(40,.var 33 [jI r0_2_12.Low,jI r0_2_12.High])] 43 0) ?_
              refine RunC.fin2 (sT [(0,.d (.bool false))] [] 43 0) (by kernel_rfl) (by kernel_rfl) ?_
              obtain rfl:=Option.some.inj h
              exact hK_148 _ (Can.kp (by kernel_rfl))
            ·have h:=ifF hb_159 h
             refine aX 54 (sT [(0,.d (.bool false))] [(42,.row 3 1 (List.map e3 [0,0,1,1])),(41,.var 33 [jI r0_2_14.Low,jI r0_2_14.High]),(40,.var 33 [jI r0_2_12.Low,jI r0_2_12.High])] 43 0) ?_
             refine RunC.fin2 (sT [(0,.d (.bool false))] [] 43 0) (by kernel_rfl) (by kernel_rfl) ?_
             obtain rfl:=Option.some.inj h
             exact hK_148 _ (Can.kp (by kernel_rfl))
           ·have h:=ifF hb_157 h
            refine aX 59 (sT [(0,.d (.bool false))] [(41,.var 33 [jI r0_2_14.Low,jI r0_2_14.High]),(40,.var 33 [jI r0_2_12.Low,jI r0_2_12.High])] 42 0) ?_
            refine RunC.fin2 (sT [(0,.d (.bool false))] [] 42 0) (by kernel_rfl) (by kernel_rfl) ?_
            obtain rfl:=Option.some.inj h
            exact hK_148 _ (Can.kp (by kernel_rfl))
          ·have h:=ifF hb_156 h
           refine aX 63 (sT [(0,.d (.bool false))] [(41,.var 33 [jI r0_2_14.Low,jI r0_2_14.High]),(40,.var 33 [jI r0_2_12.Low,jI r0_2_12.High])] 42 0) ?_
           refine RunC.fin2 (sT [(0,.d (.bool false))] [] 42 0) (by kernel_rfl) (by kernel_rfl) ?_
           obtain rfl:=Option.some.inj h
           exact hK_148 _ (Can.kp (by kernel_rfl))
         ·have h:=ifF hb_154 h
          refine aX 68 (sT [(0,.d (.bool false))] [(41,.var 33 [jI r0_2_14.Low,jI r0_2_14.High]),(40,.var 33 [jI r0_2_12.Low,jI r0_2_12.High])] 42 0) ?_
          refine RunC.fin2 (sT [(0,.d (.bool false))] [] 42 0) (by kernel_rfl) (by kernel_rfl) ?_
          obtain rfl:=Option.some.inj h
          exact hK_148 _ (Can.kp (by kernel_rfl))
        ·have h:=ifF hb_153 h
         refine aX 72 (sT [(0,.d (.bool false))] [(41,.var 33 [jI r0_2_14.Low,jI r0_2_14.High]),(40,.var 33 [jI r0_2_12.Low,jI r0_2_12.High])] 42 0) ?_
         refine RunC.fin2 (sT [(0,.d (.bool false))] [] 42 0) (by kernel_rfl) (by kernel_rfl) ?_
         obtain rfl:=Option.some.inj h
         exact hK_148 _ (Can.kp (by kernel_rfl))
       ·have h:=ifF hb_152 h
        refine aX 76 (sT [(0,.d (.bool false))] [(41,.var 33 [jI r0_2_14.Low,jI r0_2_14.High]),(40,.var 33 [jI r0_2_12.Low,jI r0_2_12.High])] 42 0) ?_
        refine RunC.fin2 (sT [(0,.d (.bool false))] [] 42 0) (by kernel_rfl) (by kernel_rfl) ?_
        obtain rfl:=Option.some.inj h
        exact hK_148 _ (Can.kp (by kernel_rfl))
      ·have h:=ifF hb_151 h
       refine aX 80 (sT [(0,.d (.bool false))] [(41,.var 33 [jI r0_2_14.Low,jI r0_2_14.High]),(40,.var 33 [jI r0_2_12.Low,jI r0_2_12.High])] 42 0) ?_
       refine RunC.fin2 (sT [(0,.d (.bool false))] [] 42 0) (by kernel_rfl) (by kernel_rfl) ?_
       obtain rfl:=Option.some.inj h
       exact hK_148 _ (Can.kp (by kernel_rfl))
     ·have h:=ifF hb_150 h
      refine aX 83 (sT [(0,.d (.bool false))] [(41,.var 33 [jI r0_2_14.Low,jI r0_2_14.High]),(40,.var 33 [jI r0_2_12.Low,jI r0_2_12.High])] 42 0) ?_
      refine RunC.fin2 (sT [(0,.d (.bool false))] [] 42 0) (by kernel_rfl) (by kernel_rfl) ?_
      obtain rfl:=Option.some.inj h
      exact hK_148 _ (Can.kp (by kernel_rfl))
    ·obtain rfl:=Option.some.inj h
     exact rT hR_0 (.cons (.tmp rfl) .nil)
end Go.Proofs.Tl
