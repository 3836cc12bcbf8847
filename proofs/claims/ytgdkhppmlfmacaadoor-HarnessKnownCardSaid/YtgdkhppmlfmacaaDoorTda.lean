/- Told functions, and that the program does so, part 1. Conditions: none. -/
import Derived.Test.YtgdkhppmlfmacaaDoorDa
set_option linter.unusedVariables false
set_option linter.unusedSimpArgs false
namespace Go.Proofs.Tm
open Go Go.Abs Go.Proofs
def g10 (low:Int) (high:Int):Option Span:=some (Span.mk low high)
theorem k10 (low:Int) (high:Int) (r:Span) (h:g10 low high=some r):SCall Tryd.prog Gs 10 [jI low,jI high] [] 0 Fr.emp (.agg [jI r.Low,jI r.High]) [] 0 Fr.emp:=by
 unfold g10 at h
 refine SCall.mkK Tryd.func10 c10 rfl rfl (by kernel_rfl) (fun Q_0 hR_0 hN_0=>?_)
 refine Sa (sT [(0,jI low),(1,jI high),pR 4 0] [(0,.var 33 [jI 0,jI 0])] 1 0) ?_
 refine Sa (sT [pR 4 0] [(0,.var 33 [jI low,jI high])] 1 0) ?_
 obtain rfl:=Option.some.inj h
 exact rT hR_0 (.cons (.agg rfl rfl (Nat.le_of_ble_eq_true rfl)) .nil)
def g123 (weight:Span) (shade:Span):Option HairHank:=some (HairHank.mk weight shade)
theorem k123 (weight:Span) (shade:Span) (r:HairHank) (h:g123 weight shade=some r):SCall Tryd.prog Gs 123 [.agg [jI weight.Low,jI weight.High],.agg [jI shade.Low,jI shade.High]] [] 0 Fr.emp (.agg [jI r.Weight.Low,jI r.Weight.High,jI r.Shade.Low,jI r.Shade.High]) [] 0 Fr.emp:=by
 unfold g123 at h
 refine SCall.mkK Tryd.func123 c123 rfl rfl (by kernel_rfl) (fun Q_0 hR_0 hN_0=>?_)
 refine Sa (sT [pR 2 0,pR 3 1,pR 4 2] [(2,.var 65 [jI 0,jI 0,jI 0,jI 0]),(1,.var 33 [jI shade.Low,jI shade.High]),(0,.var 33 [jI weight.Low,jI weight.High])] 3 0) ?_
 refine Sa (sT [pR 4 2] [(2,.var 65 [jI weight.Low,jI weight.High,jI shade.Low,jI shade.High])] 3 0) ?_
 obtain rfl:=Option.some.inj h
 exact rT hR_0 (.cons (.agg rfl rfl (Nat.le_of_ble_eq_true rfl)) .nil)
def g24 (n:Int):Option Span:=some (Span.mk n n)
theorem k24 (n:Int) (r:Span) (h:g24 n=some r):SCall Tryd.prog Gs 24 [jI n] [] 0 Fr.emp (.agg [jI r.Low,jI r.High]) [] 0 Fr.emp:=by
 unfold g24 at h
 refine SCall.mkK Tryd.func24 c24 rfl rfl (by kernel_rfl) (fun Q_0 hR_0 hN_0=>?_)
 refine Sa (sT [(0,jI n),pR 2 0] [(0,.var 33 [jI 0,jI 0])] 1 0) ?_
 refine Sa (sT [pR 2 0] [(0,.var 33 [jI n,jI n])] 1 0) ?_
 obtain rfl:=Option.some.inj h
 exact rT hR_0 (.cons (.agg rfl rfl (Nat.le_of_ble_eq_true rfl)) .nil)
def g91 :Option HairBook:=(g10 10 11).bind fun r0=>(g10 4 5).bind fun r0_1=>(g123 r0 r0_1).bind fun r0_2=>(g10 8 9).bind fun r0_3=>(g24 6).bind fun r0_4=>(g123 r0_3 r0_4).bind fun r0_5=>(g10 20 22).bind fun r0_6=>(g24 3).bind fun r0_7=>(g123 r0_6 r0_7).bind fun r0_8=>some (HairBook.mk [r0_2,r0_5,r0_8] [(HairHorse.mk 6 4 6),(HairHorse.mk 5 3 7)] 2 1 1)
theorem k91  (r:HairBook) (h:g91=some r):SCall Tryd.prog Gs 91 [] [] 0 Fr.emp (.agg [.d (.sl 4 (List.map e65 r.Hanks)),.d (.sl 3 (List.map e67 r.Horses)),jI r.Dark,jI r.Near,jI r.Match]) [] 0 Fr.emp:=by
 unfold g91 at h
 refine SCall.mkK Tryd.func91 c91 rfl rfl (by kernel_rfl) (fun Q_0 hR_0 hN_0=>?_)
 refine Sa (sT [pR 0 0] [(0,.var 61 [.d (.nilSl),.d (.nilSl),jI 0,jI 0,jI 0])] 1 0) ?_
 refine AW.srwK (fun Q_1 hQ_1=>?_)
 obtain ⟨r0,hx_2,h⟩:=bsome h
 refine rC (k10 10 11 _ hx_2) ?_
 obtain ⟨r0_1,hx_3,h⟩:=bsome h
 refine rC (k10 4 5 _ hx_3) ?_
 obtain ⟨r0_2,hx_4,h⟩:=bsome h
 refine rC (k123 r0 r0_1 _ hx_4) ?_
 obtain ⟨r0_3,hx_5,h⟩:=bsome h
 refine rC (k10 8 9 _ hx_5) ?_
 obtain ⟨r0_4,hx_6,h⟩:=bsome h
 refine rC (k24 6 _ hx_6) ?_
 obtain ⟨r0_5,hx_7,h⟩:=bsome h
 refine rC (k123 r0_3 r0_4 _ hx_7) ?_
 obtain ⟨r0_6,hx_8,h⟩:=bsome h
 refine rC (k10 20 22 _ hx_8) ?_
 obtain ⟨r0_7,hx_9,h⟩:=bsome h
 refine rC (k24 3 _ hx_9) ?_
 obtain ⟨r0_8,hx_10,h⟩:=bsome h
 refine rC (k123 r0_6 r0_7 _ hx_10) ?_
 refine Au 6 (sT [pR 0 0] [(0,.var 61 [.own 1 (List.map e65 [r0_2,r0_5,r0_8]).length,.own 2 (List.map e67 [(HairHorse.mk 6 4 6),(HairHorse.mk 5 3 7)]).length,jI 2,jI 1,jI 1]),(2,.row 67 3 (List.map e67 [(HairHorse.mk 6 4 6),(HairHorse.mk 5 3 7)])),(1,.row 65 4 (List.map e65 [r0_2,r0_5,r0_8]))] 3 0) ?_
 refine RW.nil (hQ_1 _ ?_)
 obtain rfl:=Option.some.inj h
 exact AW.ret (hR_0 _ (retX (.cons (.agg rfl rfl (Nat.le_of_ble_eq_true rfl)) .nil) (Frz.agg_of ⟨(.own rfl rfl),(.own rfl rfl),.refl _,.refl _,.refl _,trivial⟩) rfl (by kernel_rfl) (by kernel_rfl)))
def g39 :Option HarnessBook:=(g91).bind fun r0_9=>(g10 2 3).bind fun r0=>(g10 4 5).bind fun r0_1=>some (HarnessBook.mk r0_9 ([[1,4],[1,2]]) [r0,r0_1] 7 1)
theorem k39  (r:HarnessBook) (h:g39=some r):SCall Tryd.prog Gs 39 [] [] 0 Fr.emp (.agg [.d (.sl 4 (List.map e65 r.Hair.Hanks)),.d (.sl 3 (List.map e67 r.Hair.Horses)),jI r.Hair.Dark,jI r.Hair.Near,jI r.Hair.Match,.d (.sl 1 (List.map e51 r.Needs)),.d (.sl 2 (List.map e33 r.Stock)),jI r.Pack,jI r.Bad]) [] 0 Fr.emp:=by
 unfold g39 at h
 refine SCall.mkK Tryd.func39 c39 rfl rfl (by kernel_rfl) (fun Q_0 hR_0 hN_0=>?_)
 refine Sa (sT [pR 0 0] [(0,.var 83 [.d (.nilSl),.d (.nilSl),jI 0,jI 0,jI 0,.d (.nilSl),.d (.nilSl),jI 0,jI 0])] 1 0) ?_
 refine AW.srwK (fun Q_1 hQ_1=>?_)
 obtain ⟨r0_9,hx_2,h⟩:=bsome h
 refine rC (k91 _ hx_2) ?_
 refine RW.one fokW (r_bslF trivial rfl rfl rfl rfl rfl rfl (ys:=List.map e3 [1,4]) rfl (r_end ?_))
 refine RW.one fokW (r_bslF trivial rfl rfl rfl rfl rfl rfl (ys:=List.map e3 [1,2]) rfl (r_end ?_))
 refine Au 1 (sT [pR 0 0,(1,.agg [.d (.sl 4 (List.map e65 r0_9.Hanks)),.d (.sl 3 (List.map e67 r0_9.Horses)),jI r0_9.Dark,jI r0_9.Near,jI r0_9.Match]),(4,.own 3 (List.map e51 ([[1,4],[1,2]])).length)] [(3,.row 51 1 (List.map e51 ([[1,4],[1,2]]))),(0,.var 83 [.d (.nilSl),.d (.nilSl),jI 0,jI 0,jI 0,.d (.nilSl),.d (.nilSl),jI 0,jI 0])] 4 0) ?_
 obtain ⟨r0,hx_3,h⟩:=bsome h
 refine rC (k10 2 3 _ hx_3) ?_
 obtain ⟨r0_1,hx_4,h⟩:=bsome h
 refine rC (k10 4 5 _ hx_4) ?_
 refine Au 3 (sT [pR 0 0] [(0,.var 83 (catV (cv61 r0_9) [.own 3 (List.map e51 ([[1,4],[1,2]])).length,.own 4 (List.map e33 [r0,r0_1]).length,jI 7,jI 1])),(4,.row 33 2 (List.map e33 [r0,r0_1])),(3,.row 51 1 (List.map e51 ([[1,4],[1,2]])))] 5 0) ?_
 refine RW.nil (hQ_1 _ ?_)
 obtain rfl:=Option.some.inj h
 exact AW.ret (hR_0 _ (retX (.cons (.agg rfl rfl (Nat.le_of_ble_eq_true rfl)) .nil) (Frz.agg_of ⟨.refl _,.refl _,.refl _,.refl _,.refl _,(.own rfl rfl),(.own rfl rfl),.refl _,.refl _,trivial⟩) rfl (by kernel_rfl) (by kernel_rfl)))
def g91a :Option ((List HairHank)×(List HairHorse)×Int×Int×Int):=(g10 10 11).bind fun r0=>(g10 4 5).bind fun r0_1=>(g123 r0 r0_1).bind fun r0_2=>(g10 8 9).bind fun r0_3=>(g24 6).bind fun r0_4=>(g123 r0_3 r0_4).bind fun r0_5=>(g10 20 22).bind fun r0_6=>(g24 3).bind fun r0_7=>(g123 r0_6 r0_7).bind fun r0_8=>some ([r0_2,r0_5,r0_8],[(HairHorse.mk 6 4 6),(HairHorse.mk 5 3 7)],2,1,1)
theorem k91a  (r:(List HairHank)×(List HairHorse)×Int×Int×Int) (h:g91a=some r):SCall Tryd.prog Gs 91 [] [] 0 Fr.emp (match r with | (r0_Hanks,r0_Horses,r0_Dark,r0_Near,r0_Match)=>.agg [.own 1 (List.map e65 r0_Hanks).length,.own 2 (List.map e67 r0_Horses).length,jI r0_Dark,jI r0_Near,jI r0_Match]) (match r with | (r0_Hanks,r0_Horses,r0_Dark,r0_Near,r0_Match)=>[(1,.row 65 4 (List.map e65 r0_Hanks)),(2,.row 67 3 (List.map e67 r0_Horses))]) 3 Fr.emp:=by
 unfold g91a at h
 refine SCall.mkK Tryd.func91 c91 rfl rfl (by kernel_rfl) (fun Q_0 hR_0 hN_0=>?_)
 refine Sa (sT [pR 0 0] [(0,.var 61 [.d (.nilSl),.d (.nilSl),jI 0,jI 0,jI 0])] 1 0) ?_
 refine AW.srwK (fun Q_1 hQ_1=>?_)
 obtain ⟨r0,hx_2,h⟩:=bsome h
 refine rC (k10 10 11 _ hx_2) ?_
 obtain ⟨r0_1,hx_3,h⟩:=bsome h
 refine rC (k10 4 5 _ hx_3) ?_
 obtain ⟨r0_2,hx_4,h⟩:=bsome h
 refine rC (k123 r0 r0_1 _ hx_4) ?_
 obtain ⟨r0_3,hx_5,h⟩:=bsome h
 refine rC (k10 8 9 _ hx_5) ?_
 obtain ⟨r0_4,hx_6,h⟩:=bsome h
 refine rC (k24 6 _ hx_6) ?_
 obtain ⟨r0_5,hx_7,h⟩:=bsome h
 refine rC (k123 r0_3 r0_4 _ hx_7) ?_
 obtain ⟨r0_6,hx_8,h⟩:=bsome h
 refine rC (k10 20 22 _ hx_8) ?_
 obtain ⟨r0_7,hx_9,h⟩:=bsome h
 refine rC (k24 3 _ hx_9) ?_
 obtain ⟨r0_8,hx_10,h⟩:=bsome h
 refine rC (k123 r0_6 r0_7 _ hx_10) ?_
 refine Au 6 (sT [pR 0 0] [(0,.var 61 [.own 1 (List.map e65 [r0_2,r0_5,r0_8]).length,.own 2 (List.map e67 [(HairHorse.mk 6 4 6),(HairHorse.mk 5 3 7)]).length,jI 2,jI 1,jI 1]),(2,.row 67 3 (List.map e67 [(HairHorse.mk 6 4 6),(HairHorse.mk 5 3 7)])),(1,.row 65 4 (List.map e65 [r0_2,r0_5,r0_8]))] 3 0) ?_
 refine RW.nil (hQ_1 _ ?_)
 obtain rfl:=Option.some.inj h
 exact rT hR_0 (.cons (.agg rfl rfl (Nat.le_of_ble_eq_true rfl)) .nil)
def g39a :Option ((List HairHank)×(List HairHorse)×Int×Int×Int×(List Span)×Int×Int×(List Int)×(List Int)):=(g91a).bind fun (r0_Hanks,r0_Horses,r0_Dark,r0_Near,r0_Match)=>(g10 2 3).bind fun r0=>(g10 4 5).bind fun r0_1=>some (r0_Hanks,r0_Horses,r0_Dark,r0_Near,r0_Match,[r0,r0_1],7,1,[1,4],[1,2])
theorem k39a  (r:(List HairHank)×(List HairHorse)×Int×Int×Int×(List Span)×Int×Int×(List Int)×(List Int)) (h:g39a=some r):SCall Tryd.prog Gs 39 [] [] 0 Fr.emp (match r with | (r0_Hair_Hanks,r0_Hair_Horses,r0_Hair_Dark,r0_Hair_Near,r0_Hair_Match,r0_Stock,r0_Pack,r0_Bad,o6,o6_1)=>.agg [.own 2 (List.map e65 r0_Hair_Hanks).length,.own 3 (List.map e67 r0_Hair_Horses).length,jI r0_Hair_Dark,jI r0_Hair_Near,jI r0_Hair_Match,.asl 6 2,.own 7 (List.map e33 r0_Stock).length,jI r0_Pack,jI r0_Bad]) (match r with | (r0_Hair_Hanks,r0_Hair_Horses,r0_Hair_Dark,r0_Hair_Near,r0_Hair_Match,r0_Stock,r0_Pack,r0_Bad,o6,o6_1)=>[(2,.row 65 4 (List.map e65 r0_Hair_Hanks)),(3,.row 67 3 (List.map e67 r0_Hair_Horses)),(4,.row 3 1 (List.map e3 o6)),(5,.row 3 1 (List.map e3 o6_1)),(6,.arr 51 [.own 4 (List.map e3 o6).length,.own 5 (List.map e3 o6_1).length]),(7,.row 33 2 (List.map e33 r0_Stock))]) 8 Fr.emp:=by
 unfold g39a at h
 refine SCall.mkK Tryd.func39 c39 rfl rfl (by kernel_rfl) (fun Q_0 hR_0 hN_0=>?_)
 refine Sa (sT [pR 0 0] [(0,.var 83 [.d (.nilSl),.d (.nilSl),jI 0,jI 0,jI 0,.d (.nilSl),.d (.nilSl),jI 0,jI 0])] 1 0) ?_
 refine AW.srwK (fun Q_1 hQ_1=>?_)
 obtain ⟨⟨r0_Hanks,r0_Horses,r0_Dark,r0_Near,r0_Match⟩,hx_2,h⟩:=bsome h
 refine RW.one fokW (r_callS (zr:=[]) [] trivial rfl (k91a _ hx_2) trivial rfl rfl trivial rfl rfl rfl (r_end ?_))
 refine Au 2 (sT [pR 0 0,(1,.agg [.own 2 (List.map e65 r0_Hanks).length,.own 3 (List.map e67 r0_Horses).length,jI r0_Dark,jI r0_Near,jI r0_Match]),(2,.own 4 (List.map e3 [1,4]).length),(3,.own 5 (List.map e3 [1,2]).length)] [(5,.row 3 1 (List.map e3 [1,2])),(4,.row 3 1 (List.map e3 [1,4])),(2,.row 65 4 (List.map e65 r0_Hanks)),(3,.row 67 3 (List.map e67 r0_Horses)),(0,.var 83 [.d (.nilSl),.d (.nilSl),jI 0,jI 0,jI 0,.d (.nilSl),.d (.nilSl),jI 0,jI 0])] 6 0) ?_
 refine RW.one fokW (r_bslA (vs:=[.own 4 (List.map e3 [1,4]).length,.own 5 (List.map e3 [1,2]).length]) (out:=[.own 4 (List.map e3 [1,4]).length,.own 5 (List.map e3 [1,2]).length]) trivial (by kernel_rfl) (by kernel_rfl) rfl rfl rfl (r_end ?_))
 obtain ⟨r0,hx_3,h⟩:=bsome h
 refine rC (k10 2 3 _ hx_3) ?_
 obtain ⟨r0_1,hx_4,h⟩:=bsome h
 refine rC (k10 4 5 _ hx_4) ?_
 refine Au 3 (sT [pR 0 0] [(0,.var 83 [.own 2 (List.map e65 r0_Hanks).length,.own 3 (List.map e67 r0_Horses).length,jI r0_Dark,jI r0_Near,jI r0_Match,.asl 6 2,.own 7 (List.map e33 [r0,r0_1]).length,jI 7,jI 1]),(7,.row 33 2 (List.map e33 [r0,r0_1])),(6,.arr 51 [.own 4 (List.map e3 [1,4]).length,.own 5 (List.map e3 [1,2]).length]),(5,.row 3 1 (List.map e3 [1,2])),(4,.row 3 1 (List.map e3 [1,4])),(2,.row 65 4 (List.map e65 r0_Hanks)),(3,.row 67 3 (List.map e67 r0_Horses))] 8 0) ?_
 refine RW.nil (hQ_1 _ ?_)
 obtain rfl:=Option.some.inj h
 exact rT hR_0 (.cons (.agg rfl rfl (Nat.le_of_ble_eq_true rfl)) .nil)
def g69 (n:Int) (low:Int) (high:Int):Option Bool:=some ((decide (low≤n))&&(decide (n≤high)))
theorem k69 (n:Int) (low:Int) (high:Int) (r:Bool) (h:g69 n low high=some r):SCall Tryd.prog Gs 69 [jI n,jI low,jI high] [] 0 Fr.emp (.d (.bool r)) [] 0 Fr.emp:=by
 unfold g69 at h
 refine SCall.mkK Tryd.func69 c69 rfl rfl (by kernel_rfl) (fun Q_0 hR_0 hN_0=>?_)
 refine Sa (sT [(0,jI n),(1,jI low),(2,jI high)] [] 0 0) ?_
 refine AW.sa fokW [10] (sT [(6,.d (.bool ((decide (low≤n))&&(decide (n≤high)))))] [] 0 0) (by kernel_rfl) ?_
 obtain rfl:=Option.some.inj h
 exact rT hR_0 (.cons (.tmp rfl) .nil)
def g89 (s:Span) (low:Int) (high:Int) (wide:Int):Option Bool:=some ((((decide (low≤s.Low))&&(decide (s.Low≤s.High)))&&(decide (s.High≤high)))&&(decide ((wr (s.High - s.Low))≤wide)))
theorem k89 (s:Span) (low:Int) (high:Int) (wide:Int) (r:Bool) (h:g89 s low high wide=some r):SCall Tryd.prog Gs 89 [.agg [jI s.Low,jI s.High],jI low,jI high,jI wide] [] 0 Fr.emp (.d (.bool r)) [] 0 Fr.emp:=by
 unfold g89 at h
 refine SCall.mkK Tryd.func89 c89 rfl rfl (by kernel_rfl) (fun Q_0 hR_0 hN_0=>?_)
 refine Sa (sT [(1,jI low),(2,jI high),(3,jI wide),pR 4 0] [(0,.var 33 [jI s.Low,jI s.High])] 1 0) ?_
 refine AW.sa fokW [13,20,26] (sT [(8,.d (.bool ((((decide (low≤s.Low))&&(decide (s.Low≤s.High)))&&(decide (s.High≤high)))&&(decide ((wr (s.High - s.Low))≤wide)))))] [] 1 0) (by kernel_rfl) ?_
 obtain rfl:=Option.some.inj h
 exact rT hR_0 (.cons (.tmp rfl) .nil)
def g35_31:Int→HairHorse→Bool→Option Bool:=fun v7 p1 ok1=>(bif ok1 then ((g69 p1.Mane 1 30).bind fun r0_5=>some r0_5) else (some false)).bind fun v8=>(bif v8 then ((g69 p1.Tail 1 30).bind fun r0_6=>some r0_6) else (some false)).bind fun v9=>(bif v9 then ((g69 p1.Shade 0 25).bind fun r0_7=>some r0_7) else (some false)).bind fun v10=>some v10
def g35_15:Int→HairHank→Bool→Option Bool:=fun v4 p ok=>(bif ok then ((g89 p.Weight 1 60 4).bind fun r0_3=>some r0_3) else (some false)).bind fun v5=>(bif v5 then ((g89 p.Shade 0 20 2).bind fun r0_4=>some r0_4) else (some false)).bind fun v6=>some v6
def g35 (b:HairBook):Option Int:=(bif (decide ((b.Hanks.length:Int)≤4)) then (some (decide ((b.Horses.length:Int)≤3))) else (some false)).bind fun v=>(bif v then ((g69 b.Dark 0 4).bind fun r0=>some r0) else (some false)).bind fun v1=>(bif v1 then ((g69 b.Near 0 3).bind fun r0_1=>some r0_1) else (some false)).bind fun v2=>(bif v2 then ((g69 b.Match 0 3).bind fun r0_2=>some r0_2) else (some false)).bind fun v3=>(eachS g35_15 b.Hanks 0 v3).bind fun ok=>(eachS g35_31 b.Horses 0 ok).bind fun ok1=>bif (!ok1) then (some 60) else (some 0)
theorem k35 (b:HairBook) (r:Int) (h:g35 b=some r):SCall Tryd.prog Gs 35 [.agg [.d (.sl 4 (List.map e65 b.Hanks)),.d (.sl 3 (List.map e67 b.Horses)),jI b.Dark,jI b.Near,jI b.Match]] [] 0 Fr.emp (jI r) [] 0 Fr.emp:=by
 unfold g35 at h
 refine SCall.mkK Tryd.func35 c35 rfl rfl (by kernel_rfl) (fun Q_0 hR_0 hN_0=>?_)
 refine Sa (sT [pR 1 0] [(0,.var 61 (cv61 b))] 1 0) ?_
 refine AW.srwK (fun Q_1 hQ_1=>?_)
 refine Au 2 (sT [pR 1 0,(9,.d (.sl 4 (List.map e65 b.Hanks)))] [(0,.var 61 (cv61 b))] 1 0) ?_
 refine rL rfl ?_
 refine Au 2 (sT [pR 1 0,(12,.d (.bool (decide ((b.Hanks.length:Int)≤4))))] [(0,.var 61 (cv61 b))] 1 0) ?_
 obtain ⟨v,hx_2,h⟩:=bsome h
 refine RW.cut fokW 5 ((sT [pR 1 0,(17,.d (.bool v))] [(0,.var 61 (cv61 b))] 1 0)) ?_ ?_
 ·refine r_split 12 rfl (fun hb_3=>?_) (fun hb_3=>?_)
  ·have h:=ifT hb_3 hx_2
   refine aX 2 (sT [pR 1 0,(12,.d (.bool true)),(14,.d (.sl 3 (List.map e67 b.Horses)))] [(0,.var 61 (cv61 b))] 1 0) ?_
   refine r_lenX rfl rfl lenm ?_
   refine aX 2 (sT [pR 1 0,(17,.d (.bool (decide ((b.Horses.length:Int)≤3))))] [(0,.var 61 (cv61 b))] 1 0) ?_
   obtain rfl:=Option.some.inj h
   refine RunC.finJ (Can.kp (by kernel_rfl))
  ·have h:=ifF hb_3 hx_2
   refine aX 5 (sT [pR 1 0,(17,.d (.bool false))] [(0,.var 61 (cv61 b))] 1 0) ?_
   obtain rfl:=Option.some.inj h
   refine RunC.finJ (Can.kp (by kernel_rfl))
 ·refine Au 1 (sT [pR 1 0,(18,.d (.bool v))] [(0,.var 61 (cv61 b))] 1 0) ?_
  obtain ⟨v1,hx_4,h⟩:=bsome h
  refine RW.cut fokW 4 ((sT [pR 1 0,(22,.d (.bool v1))] [(0,.var 61 (cv61 b))] 1 0)) ?_ ?_
  ·refine r_split 18 rfl (fun hb_6=>?_) (fun hb_6=>?_)
   ·have h:=ifT hb_6 hx_4
    refine aX 2 (sT [pR 1 0,(18,.d (.bool true)),(20,jI b.Dark)] [(0,.var 61 (cv61 b))] 1 0) ?_
    obtain ⟨r0,hx_5,h⟩:=bsome h
    refine r_call rfl rfl (k69 b.Dark 0 4 _ hx_5) rfl rfl ?_
    refine aX 1 (sT [pR 1 0,(22,.d (.bool r0))] [(0,.var 61 (cv61 b))] 1 0) ?_
    obtain rfl:=Option.some.inj h
    refine RunC.finJ (Can.kp (by kernel_rfl))
   ·have h:=ifF hb_6 hx_4
    refine aX 4 (sT [pR 1 0,(22,.d (.bool false))] [(0,.var 61 (cv61 b))] 1 0) ?_
    obtain rfl:=Option.some.inj h
    refine RunC.finJ (Can.kp (by kernel_rfl))
  ·refine Au 1 (sT [pR 1 0,(23,.d (.bool v1))] [(0,.var 61 (cv61 b))] 1 0) ?_
   obtain ⟨v2,hx_7,h⟩:=bsome h
   refine RW.cut fokW 4 ((sT [pR 1 0,(27,.d (.bool v2))] [(0,.var 61 (cv61 b))] 1 0)) ?_ ?_
   ·refine r_split 23 rfl (fun hb_9=>?_) (fun hb_9=>?_)
    ·have h:=ifT hb_9 hx_7
     refine aX 2 (sT [pR 1 0,(23,.d (.bool true)),(25,jI b.Near)] [(0,.var 61 (cv61 b))] 1 0) ?_
     obtain ⟨r0_1,hx_8,h⟩:=bsome h
     refine r_call rfl rfl (k69 b.Near 0 3 _ hx_8) rfl rfl ?_
     refine aX 1 (sT [pR 1 0,(27,.d (.bool r0_1))] [(0,.var 61 (cv61 b))] 1 0) ?_
     obtain rfl:=Option.some.inj h
     refine RunC.finJ (Can.kp (by kernel_rfl))
    ·have h:=ifF hb_9 hx_7
     refine aX 4 (sT [pR 1 0,(27,.d (.bool false))] [(0,.var 61 (cv61 b))] 1 0) ?_
     obtain rfl:=Option.some.inj h
     refine RunC.finJ (Can.kp (by kernel_rfl))
   ·refine Au 1 (sT [pR 1 0,(28,.d (.bool v2))] [(0,.var 61 (cv61 b))] 1 0) ?_
    obtain ⟨v3,hx_10,h⟩:=bsome h
    refine RW.cut fokW 4 ((sT [pR 1 0,(32,.d (.bool v3))] [(0,.var 61 (cv61 b))] 1 0)) ?_ ?_
    ·refine r_split 28 rfl (fun hb_12=>?_) (fun hb_12=>?_)
     ·have h:=ifT hb_12 hx_10
      refine aX 2 (sT [pR 1 0,(28,.d (.bool true)),(30,jI b.Match)] [(0,.var 61 (cv61 b))] 1 0) ?_
      obtain ⟨r0_2,hx_11,h⟩:=bsome h
      refine r_call rfl rfl (k69 b.Match 0 3 _ hx_11) rfl rfl ?_
      refine aX 1 (sT [pR 1 0,(32,.d (.bool r0_2))] [(0,.var 61 (cv61 b))] 1 0) ?_
      obtain rfl:=Option.some.inj h
      refine RunC.finJ (Can.kp (by kernel_rfl))
     ·have h:=ifF hb_12 hx_10
      refine aX 4 (sT [pR 1 0,(32,.d (.bool false))] [(0,.var 61 (cv61 b))] 1 0) ?_
      obtain rfl:=Option.some.inj h
      refine RunC.finJ (Can.kp (by kernel_rfl))
    ·refine Au 1 (sT [pR 1 0,(3,.d (.bool v3))] [(0,.var 61 (cv61 b))] 1 0) ?_
     refine RW.nil (hQ_1 _ ?_)
     refine AW.seqK fun K_13 hK_13=>AW.srwK fun Q_14 hQ_14=>?_
     refine Au 2 (sT [pR 1 0,(3,.d (.bool v3)),(34,.d (.sl 4 (List.map e65 b.Hanks)))] [(0,.var 61 (cv61 b))] 1 0) ?_
     refine rL rfl ?_
     refine Au 1 (sT [pR 1 0,(3,.d (.bool v3)),(34,.d (.sl 4 (List.map e65 b.Hanks))),(35,jI (b.Hanks.length:Int)),(36,jI 0)] [(0,.var 61 (cv61 b))] 1 0) ?_
     refine RW.nil (hQ_14 _ ?_)
     refine AW.block ?_
     refine AW.sln (t:=34) rfl (fun hN_15=>?_)
     rw [List.length_map] at hN_15
     obtain ⟨out_15,hx_15,h⟩:=bsome h
     refine AW.evSK (fun (v4:Int) (ok:Bool)=>(sT [pR 1 0,(3,.d (.bool ok)),(34,.d (.sl 4 (List.map e65 b.Hanks))),(35,jI (b.Hanks.length:Int)),(36,jI v4)] [(0,.var 61 (cv61 b))] 1 0)) g35_15 hx_15 (Can.kp (by kernel_rfl)) (fun v4 p ok hi_15 hl_15 hp_15 c_15 h K_15 hK_15=>?_) (fun v4 ok hi_15 hl_15 hout=>?_)
     ·unfold g35_15 at h
      refine Sa (sT [pR 1 0,(3,.d (.bool ok)),(34,.d (.sl 4 (List.map e65 b.Hanks))),(35,jI (b.Hanks.length:Int)),(36,jI v4),(37,.d (.bool (decide (v4<(b.Hanks.length:Int)))))] [(0,.var 61 (cv61 b))] 1 0) ?_
      refine AW.seqK (fun K_16 hK_16=>?_)
      refine AW.cond rfl (fun hb_17=>?_) (fun hb_17=>False.elim (by have:=of_decide_eq_false hb_17;omega))
      refine AW.skip (hK_16 _ ?_)
      refine AW.seqK (fun K_18 hK_18=>?_)
      refine AW.block ?_
      refine AW.srwK (fun Q_19 hQ_19=>?_)
      refine RW.one fokW (r_iaD trivial rfl rfl hi_15 (row:=e65 p) (mapget hp_15) (r_end ?_))
      refine Au 3 (sT [pR 1 0,(3,.d (.bool ok)),pR 5 1,(34,.d (.sl 4 (List.map e65 b.Hanks))),(35,jI (b.Hanks.length:Int)),(36,jI v4)] [(1,.var 65 (cv65 p)),(0,.var 61 (cv61 b))] 2 0) ?_
      refine RW.nil (hQ_19 _ ?_)
      refine AW.rw ?_
      refine Au 2 (sT [pR 1 0,pR 5 1,(34,.d (.sl 4 (List.map e65 b.Hanks))),(35,jI (b.Hanks.length:Int)),(36,jI v4),(41,.d (.bool ok))] [(1,.var 65 (cv65 p)),(0,.var 61 (cv61 b))] 2 0) ?_
      obtain ⟨v5,hx_21,h⟩:=bsome h
      refine RW.cut fokW 4 ((sT [pR 1 0,pR 5 1,(34,.d (.sl 4 (List.map e65 b.Hanks))),(35,jI (b.Hanks.length:Int)),(36,jI v4),(45,.d (.bool v5))] [(1,.var 65 (cv65 p)),(0,.var 61 (cv61 b))] 2 0)) ?_ ?_
      ·refine r_split 41 rfl (fun hb_23=>?_) (fun hb_23=>?_)
       ·have h:=ifT hb_23 hx_21
        refine aX 2 (sT [pR 1 0,pR 5 1,(34,.d (.sl 4 (List.map e65 b.Hanks))),(35,jI (b.Hanks.length:Int)),(36,jI v4),(41,.d (.bool true)),(43,.agg [jI p.Weight.Low,jI p.Weight.High])] [(1,.var 65 (cv65 p)),(0,.var 61 (cv61 b))] 2 0) ?_
        obtain ⟨r0_3,hx_22,h⟩:=bsome h
        refine r_call rfl rfl (k89 p.Weight 1 60 4 _ hx_22) rfl rfl ?_
        refine aX 1 (sT [pR 1 0,pR 5 1,(34,.d (.sl 4 (List.map e65 b.Hanks))),(35,jI (b.Hanks.length:Int)),(36,jI v4),(45,.d (.bool r0_3))] [(1,.var 65 (cv65 p)),(0,.var 61 (cv61 b))] 2 0) ?_
        obtain rfl:=Option.some.inj h
        refine RunC.finJ (Can.kp (by kernel_rfl))
       ·have h:=ifF hb_23 hx_21
        refine aX 4 (sT [pR 1 0,pR 5 1,(34,.d (.sl 4 (List.map e65 b.Hanks))),(35,jI (b.Hanks.length:Int)),(36,jI v4),(45,.d (.bool false))] [(1,.var 65 (cv65 p)),(0,.var 61 (cv61 b))] 2 0) ?_
        obtain rfl:=Option.some.inj h
        refine RunC.finJ (Can.kp (by kernel_rfl))
      ·refine Au 1 (sT [pR 1 0,pR 5 1,(34,.d (.sl 4 (List.map e65 b.Hanks))),(35,jI (b.Hanks.length:Int)),(36,jI v4),(46,.d (.bool v5))] [(1,.var 65 (cv65 p)),(0,.var 61 (cv61 b))] 2 0) ?_
       obtain ⟨v6,hx_24,h⟩:=bsome h
       refine RW.cut fokW 4 ((sT [pR 1 0,(34,.d (.sl 4 (List.map e65 b.Hanks))),(35,jI (b.Hanks.length:Int)),(36,jI v4),(50,.d (.bool v6))] [(0,.var 61 (cv61 b))] 2 0)) ?_ ?_
       ·refine r_split 46 rfl (fun hb_26=>?_) (fun hb_26=>?_)
        ·have h:=ifT hb_26 hx_24
         refine aX 2 (sT [pR 1 0,(34,.d (.sl 4 (List.map e65 b.Hanks))),(35,jI (b.Hanks.length:Int)),(36,jI v4),(46,.d (.bool true)),(48,.agg [jI p.Shade.Low,jI p.Shade.High])] [(1,.var 65 (cv65 p)),(0,.var 61 (cv61 b))] 2 0) ?_
         obtain ⟨r0_4,hx_25,h⟩:=bsome h
         refine r_call rfl rfl (k89 p.Shade 0 20 2 _ hx_25) rfl rfl ?_
         refine aX 1 (sT [pR 1 0,(34,.d (.sl 4 (List.map e65 b.Hanks))),(35,jI (b.Hanks.length:Int)),(36,jI v4),(50,.d (.bool r0_4))] [(1,.var 65 (cv65 p)),(0,.var 61 (cv61 b))] 2 0) ?_
         obtain rfl:=Option.some.inj h
         refine RunC.finJ (Can.kp (by kernel_rfl))
        ·have h:=ifF hb_26 hx_24
         refine aX 4 (sT [pR 1 0,(34,.d (.sl 4 (List.map e65 b.Hanks))),(35,jI (b.Hanks.length:Int)),(36,jI v4),(50,.d (.bool false))] [(1,.var 65 (cv65 p)),(0,.var 61 (cv61 b))] 2 0) ?_
         obtain rfl:=Option.some.inj h
         refine RunC.finJ (Can.kp (by kernel_rfl))
       ·refine Au 1 (sT [pR 1 0,(3,.d (.bool v6)),(34,.d (.sl 4 (List.map e65 b.Hanks))),(35,jI (b.Hanks.length:Int)),(36,jI v4)] [(0,.var 61 (cv61 b))] 2 0) ?_
        refine RW.nil ?_
        refine hK_18 _ ?_
        refine Ra (sT [pR 1 0,(3,.d (.bool v6)),(34,.d (.sl 4 (List.map e65 b.Hanks))),(35,jI (b.Hanks.length:Int)),(36,jI (wr (v4+1)))] [(0,.var 61 (cv61 b))] 2 0) ?_
        obtain rfl:=Option.some.inj h
        have ew:wr (v4+1)=v4+1:=inext (N:=(b.Hanks.length:Int)) (by omega) (by omega) (by omega)
        rw [ew]
        exact hK_15 _ (Can.kp (by kernel_rfl))
     ·subst hout
      refine Sa (sT [pR 1 0,(3,.d (.bool ok)),(34,.d (.sl 4 (List.map e65 b.Hanks))),(35,jI (b.Hanks.length:Int)),(36,jI v4),(37,.d (.bool (decide (v4<(b.Hanks.length:Int)))))] [(0,.var 61 (cv61 b))] 1 0) ?_
      refine AW.seqK (fun K_27 hK_27=>?_)
      refine AW.cond rfl (fun hb_28=>False.elim (by have:=of_decide_eq_true hb_28;omega)) (fun hb_28=>?_)
      refine AW.exit ?_
      refine hK_13 _ ?_
      refine AW.seqK fun K_29 hK_29=>AW.srwK fun Q_30 hQ_30=>?_
      refine Au 2 (sT [(3,.d (.bool ok)),(53,.d (.sl 3 (List.map e67 b.Horses)))] [] 1 0) ?_
      refine rL rfl ?_
      refine Au 1 (sT [(3,.d (.bool ok)),(53,.d (.sl 3 (List.map e67 b.Horses))),(54,jI (b.Horses.length:Int)),(55,jI 0)] [] 1 0) ?_
      refine RW.nil (hQ_30 _ ?_)
      refine AW.block ?_
      refine AW.sln (t:=53) rfl (fun hN_31=>?_)
      rw [List.length_map] at hN_31
      obtain ⟨out_31,hx_31,h⟩:=bsome h
      refine AW.evSK (fun (v7:Int) (ok1:Bool)=>(sT [(3,.d (.bool ok1)),(53,.d (.sl 3 (List.map e67 b.Horses))),(54,jI (b.Horses.length:Int)),(55,jI v7)] [] 1 0)) g35_31 hx_31 (Can.kp (by kernel_rfl)) (fun v7 p1 ok1 hi_31 hl_31 hp_31 c_31 h K_31 hK_31=>?_) (fun v7 ok1 hi_31 hl_31 hout=>?_)
      ·unfold g35_31 at h
       refine Sa (sT [(3,.d (.bool ok1)),(53,.d (.sl 3 (List.map e67 b.Horses))),(54,jI (b.Horses.length:Int)),(55,jI v7),(56,.d (.bool (decide (v7<(b.Horses.length:Int)))))] [] 1 0) ?_
       refine AW.seqK (fun K_32 hK_32=>?_)
       refine AW.cond rfl (fun hb_33=>?_) (fun hb_33=>False.elim (by have:=of_decide_eq_false hb_33;omega))
       refine AW.skip (hK_32 _ ?_)
       refine AW.seqK (fun K_34 hK_34=>?_)
       refine AW.block ?_
       refine AW.srwK (fun Q_35 hQ_35=>?_)
       refine RW.one fokW (r_iaD trivial rfl rfl hi_31 (row:=e67 p1) (mapget hp_31) (r_end ?_))
       refine Au 3 (sT [(3,.d (.bool ok1)),pR 7 1,(53,.d (.sl 3 (List.map e67 b.Horses))),(54,jI (b.Horses.length:Int)),(55,jI v7)] [(1,.var 67 [jI p1.Mane,jI p1.Tail,jI p1.Shade])] 2 0) ?_
       refine RW.nil (hQ_35 _ ?_)
       refine AW.rw ?_
       refine Au 2 (sT [pR 7 1,(53,.d (.sl 3 (List.map e67 b.Horses))),(54,jI (b.Horses.length:Int)),(55,jI v7),(60,.d (.bool ok1))] [(1,.var 67 [jI p1.Mane,jI p1.Tail,jI p1.Shade])] 2 0) ?_
       obtain ⟨v8,hx_37,h⟩:=bsome h
       refine RW.cut fokW 4 ((sT [pR 7 1,(53,.d (.sl 3 (List.map e67 b.Horses))),(54,jI (b.Horses.length:Int)),(55,jI v7),(64,.d (.bool v8))] [(1,.var 67 [jI p1.Mane,jI p1.Tail,jI p1.Shade])] 2 0)) ?_ ?_
       ·refine r_split 60 rfl (fun hb_39=>?_) (fun hb_39=>?_)
        ·have h:=ifT hb_39 hx_37
         refine aX 2 (sT [pR 7 1,(53,.d (.sl 3 (List.map e67 b.Horses))),(54,jI (b.Horses.length:Int)),(55,jI v7),(60,.d (.bool true)),(62,jI p1.Mane)] [(1,.var 67 [jI p1.Mane,jI p1.Tail,jI p1.Shade])] 2 0) ?_
         obtain ⟨r0_5,hx_38,h⟩:=bsome h
         refine r_call rfl rfl (k69 p1.Mane 1 30 _ hx_38) rfl rfl ?_
         refine aX 1 (sT [pR 7 1,(53,.d (.sl 3 (List.map e67 b.Horses))),(54,jI (b.Horses.length:Int)),(55,jI v7),(64,.d (.bool r0_5))] [(1,.var 67 [jI p1.Mane,jI p1.Tail,jI p1.Shade])] 2 0) ?_
         obtain rfl:=Option.some.inj h
         refine RunC.finJ (Can.kp (by kernel_rfl))
        ·have h:=ifF hb_39 hx_37
         refine aX 4 (sT [pR 7 1,(53,.d (.sl 3 (List.map e67 b.Horses))),(54,jI (b.Horses.length:Int)),(55,jI v7),(64,.d (.bool false))] [(1,.var 67 [jI p1.Mane,jI p1.Tail,jI p1.Shade])] 2 0) ?_
         obtain rfl:=Option.some.inj h
         refine RunC.finJ (Can.kp (by kernel_rfl))
       ·refine Au 1 (sT [pR 7 1,(53,.d (.sl 3 (List.map e67 b.Horses))),(54,jI (b.Horses.length:Int)),(55,jI v7),(65,.d (.bool v8))] [(1,.var 67 [jI p1.Mane,jI p1.Tail,jI p1.Shade])] 2 0) ?_
        obtain ⟨v9,hx_40,h⟩:=bsome h
        refine RW.cut fokW 4 ((sT [pR 7 1,(53,.d (.sl 3 (List.map e67 b.Horses))),(54,jI (b.Horses.length:Int)),(55,jI v7),(69,.d (.bool v9))] [(1,.var 67 [jI p1.Mane,jI p1.Tail,jI p1.Shade])] 2 0)) ?_ ?_
        ·refine r_split 65 rfl (fun hb_42=>?_) (fun hb_42=>?_)
         ·have h:=ifT hb_42 hx_40
          refine aX 2 (sT [pR 7 1,(53,.d (.sl 3 (List.map e67 b.Horses))),(54,jI (b.Horses.length:Int)),(55,jI v7),(65,.d (.bool true)),(67,jI p1.Tail)] [(1,.var 67 [jI p1.Mane,jI p1.Tail,jI p1.Shade])] 2 0) ?_
          obtain ⟨r0_6,hx_41,h⟩:=bsome h
          refine r_call rfl rfl (k69 p1.Tail 1 30 _ hx_41) rfl rfl ?_
          refine aX 1 (sT [pR 7 1,(53,.d (.sl 3 (List.map e67 b.Horses))),(54,jI (b.Horses.length:Int)),(55,jI v7),(69,.d (.bool r0_6))] [(1,.var 67 [jI p1.Mane,jI p1.Tail,jI p1.Shade])] 2 0) ?_
          obtain rfl:=Option.some.inj h
          refine RunC.finJ (Can.kp (by kernel_rfl))
         ·have h:=ifF hb_42 hx_40
          refine aX 4 (sT [pR 7 1,(53,.d (.sl 3 (List.map e67 b.Horses))),(54,jI (b.Horses.length:Int)),(55,jI v7),(69,.d (.bool false))] [(1,.var 67 [jI p1.Mane,jI p1.Tail,jI p1.Shade])] 2 0) ?_
          obtain rfl:=Option.some.inj h
          refine RunC.finJ (Can.kp (by kernel_rfl))
        ·refine Au 1 (sT [pR 7 1,(53,.d (.sl 3 (List.map e67 b.Horses))),(54,jI (b.Horses.length:Int)),(55,jI v7),(70,.d (.bool v9))] [(1,.var 67 [jI p1.Mane,jI p1.Tail,jI p1.Shade])] 2 0) ?_
         obtain ⟨v10,hx_43,h⟩:=bsome h
         refine RW.cut fokW 4 ((sT [(53,.d (.sl 3 (List.map e67 b.Horses))),(54,jI (b.Horses.length:Int)),(55,jI v7),(74,.d (.bool v10))] [] 2 0)) ?_ ?_
         ·refine r_split 70 rfl (fun hb_45=>?_) (fun hb_45=>?_)
          ·have h:=ifT hb_45 hx_43
           refine aX 2 (sT [(53,.d (.sl 3 (List.map e67 b.Horses))),(54,jI (b.Horses.length:Int)),(55,jI v7),(70,.d (.bool true)),(72,jI p1.Shade)] [(1,.var 67 [jI p1.Mane,jI p1.Tail,jI p1.Shade])] 2 0) ?_
           obtain ⟨r0_7,hx_44,h⟩:=bsome h
           refine r_call rfl rfl (k69 p1.Shade 0 25 _ hx_44) rfl rfl ?_
           refine aX 1 (sT [(53,.d (.sl 3 (List.map e67 b.Horses))),(54,jI (b.Horses.length:Int)),(55,jI v7),(74,.d (.bool r0_7))] [(1,.var 67 [jI p1.Mane,jI p1.Tail,jI p1.Shade])] 2 0) ?_
           obtain rfl:=Option.some.inj h
           refine RunC.finJ (Can.kp (by kernel_rfl))
          ·have h:=ifF hb_45 hx_43
           refine aX 4 (sT [(53,.d (.sl 3 (List.map e67 b.Horses))),(54,jI (b.Horses.length:Int)),(55,jI v7),(74,.d (.bool false))] [(1,.var 67 [jI p1.Mane,jI p1.Tail,jI p1.Shade])] 2 0) ?_
           obtain rfl:=Option.some.inj h
           refine RunC.finJ (Can.kp (by kernel_rfl))
         ·refine Au 1 (sT [(3,.d (.bool v10)),(53,.d (.sl 3 (List.map e67 b.Horses))),(54,jI (b.Horses.length:Int)),(55,jI v7)] [] 2 0) ?_
          refine RW.nil ?_
          refine hK_34 _ ?_
          refine Ra (sT [(3,.d (.bool v10)),(53,.d (.sl 3 (List.map e67 b.Horses))),(54,jI (b.Horses.length:Int)),(55,jI (wr (v7+1)))] [] 2 0) ?_
          obtain rfl:=Option.some.inj h
          have ew:wr (v7+1)=v7+1:=inext (N:=(b.Horses.length:Int)) (by omega) (by omega) (by omega)
          rw [ew]
          exact hK_31 _ (Can.kp (by kernel_rfl))
      ·subst hout
       refine Sa (sT [(3,.d (.bool ok1)),(53,.d (.sl 3 (List.map e67 b.Horses))),(54,jI (b.Horses.length:Int)),(55,jI v7),(56,.d (.bool (decide (v7<(b.Horses.length:Int)))))] [] 1 0) ?_
       refine AW.seqK (fun K_46 hK_46=>?_)
       refine AW.cond rfl (fun hb_47=>False.elim (by have:=of_decide_eq_true hb_47;omega)) (fun hb_47=>?_)
       refine AW.exit ?_
       refine hK_29 _ ?_
       refine AW.seqK (fun K_48 hK_48=>?_)
       refine Sa (sT [(77,.d (.bool (!ok1)))] [] 1 0) ?_
       refine AW.cond rfl (fun hb_49=>?_) (fun hb_49=>?_)
       ·have h:=ifT hb_49 h
        refine Sa (sT [(2,jI 60)] [] 1 0) ?_
        obtain rfl:=Option.some.inj h
        exact rT hR_0 (.cons (.tmp rfl) .nil)
       ·have h:=ifF hb_49 h
        refine AW.skip (hK_48 _ ?_)
        refine Sa (sT [(2,jI 0)] [] 1 0) ?_
        obtain rfl:=Option.some.inj h
        exact rT hR_0 (.cons (.tmp rfl) .nil)
def g107 (n:Int) (low:Int) (high:Int):Option Bool:=some ((decide (low≤n))&&(decide (n≤high)))
theorem k107 (n:Int) (low:Int) (high:Int) (r:Bool) (h:g107 n low high=some r):SCall Tryd.prog Gs 107 [jI n,jI low,jI high] [] 0 Fr.emp (.d (.bool r)) [] 0 Fr.emp:=by
 unfold g107 at h
 refine SCall.mkK Tryd.func107 c107 rfl rfl (by kernel_rfl) (fun Q_0 hR_0 hN_0=>?_)
 refine Sa (sT [(0,jI n),(1,jI low),(2,jI high)] [] 0 0) ?_
 refine AW.sa fokW [10] (sT [(6,.d (.bool ((decide (low≤n))&&(decide (n≤high)))))] [] 0 0) (by kernel_rfl) ?_
 obtain rfl:=Option.some.inj h
 exact rT hR_0 (.cons (.tmp rfl) .nil)
def g48_38:Int→Int→Bool→Option Bool:=fun v8 p2 ok2=>(bif ok2 then ((g107 p2 0 9).bind fun r0_4=>some r0_4) else (some false)).bind fun v9=>some v9
def g48_29 (b:HarnessBook):Int→(List Int)→Bool→Option Bool:=fun v6 p1 ok1=>(bif ok1 then (some (decide ((p1.length:Int)=(b.Stock.length:Int)))) else (some false)).bind fun v7=>(eachS g48_38 p1 0 v7).bind fun ok2=>some ok2
def g48_16:Int→Span→Bool→Option Bool:=fun v4 p ok=>(bif ok then ((g107 p.Low 0 p.High).bind fun r0_3=>some r0_3) else (some false)).bind fun v5=>some ((v5&&(decide (p.High≤40)))&&(decide ((wr (p.High - p.Low))≤4)))
def g48 (b:HarnessBook):Option Int:=(g35 b.Hair).bind fun r0_9=>(bif (decide (r0_9=0)) then ((g107 (b.Stock.length:Int) 1 3).bind fun r0=>some r0) else (some false)).bind fun v=>(bif v then (some (decide ((b.Needs.length:Int)=(b.Hair.Horses.length:Int)))) else (some false)).bind fun v1=>(bif v1 then ((g107 b.Pack 1 12).bind fun r0_1=>some r0_1) else (some false)).bind fun v2=>(bif v2 then ((g107 b.Bad 0 (wr (b.Pack - 1))).bind fun r0_2=>some r0_2) else (some false)).bind fun v3=>(eachS g48_16 b.Stock 0 v3).bind fun ok=>(eachS (g48_29 b) b.Needs 0 ok).bind fun ok1=>bif (!ok1) then (some 100) else (some 0)
theorem k48 (b:HarnessBook) (r:Int) (h:g48 b=some r):SCall Tryd.prog Gs 48 [.agg [.d (.sl 4 (List.map e65 b.Hair.Hanks)),.d (.sl 3 (List.map e67 b.Hair.Horses)),jI b.Hair.Dark,jI b.Hair.Near,jI b.Hair.Match,.d (.sl 1 (List.map e51 b.Needs)),.d (.sl 2 (List.map e33 b.Stock)),jI b.Pack,jI b.Bad]] [] 0 Fr.emp (jI r) [] 0 Fr.emp:=by
 unfold g48 at h
 refine SCall.mkK Tryd.func48 c48 rfl rfl (by kernel_rfl) (fun Q_0 hR_0 hN_0=>?_)
 refine Sa (sT [pR 1 0] [(0,.var 83 (cv83 b))] 1 0) ?_
 refine AW.srwK (fun Q_1 hQ_1=>?_)
 refine Au 2 (sT [pR 1 0,(11,.agg [.d (.sl 4 (List.map e65 b.Hair.Hanks)),.d (.sl 3 (List.map e67 b.Hair.Horses)),jI b.Hair.Dark,jI b.Hair.Near,jI b.Hair.Match])] [(0,.var 83 (cv83 b))] 1 0) ?_
 obtain ⟨r0_9,hx_2,h⟩:=bsome h
 refine rC (k35 b.Hair _ hx_2) ?_
 refine Au 2 (sT [pR 1 0,(14,.d (.bool (decide (r0_9=0))))] [(0,.var 83 (cv83 b))] 1 0) ?_
 obtain ⟨v,hx_3,h⟩:=bsome h
 refine RW.cut fokW 5 ((sT [pR 1 0,(19,.d (.bool v))] [(0,.var 83 (cv83 b))] 1 0)) ?_ ?_
 ·refine r_split 14 rfl (fun hb_5=>?_) (fun hb_5=>?_)
  ·have h:=ifT hb_5 hx_3
   refine aX 2 (sT [pR 1 0,(14,.d (.bool true)),(16,.d (.sl 2 (List.map e33 b.Stock)))] [(0,.var 83 (cv83 b))] 1 0) ?_
   refine r_lenX rfl rfl lenm ?_
   obtain ⟨r0,hx_4,h⟩:=bsome h
   refine r_call rfl rfl (k107 (b.Stock.length:Int) 1 3 _ hx_4) rfl rfl ?_
   refine aX 1 (sT [pR 1 0,(19,.d (.bool r0))] [(0,.var 83 (cv83 b))] 1 0) ?_
   obtain rfl:=Option.some.inj h
   refine RunC.finJ (Can.kp (by kernel_rfl))
  ·have h:=ifF hb_5 hx_3
   refine aX 5 (sT [pR 1 0,(19,.d (.bool false))] [(0,.var 83 (cv83 b))] 1 0) ?_
   obtain rfl:=Option.some.inj h
   refine RunC.finJ (Can.kp (by kernel_rfl))
 ·refine Au 1 (sT [pR 1 0,(20,.d (.bool v))] [(0,.var 83 (cv83 b))] 1 0) ?_
  obtain ⟨v1,hx_6,h⟩:=bsome h
  refine RW.cut fokW 9 ((sT [pR 1 0,(29,.d (.bool v1))] [(0,.var 83 (cv83 b))] 1 0)) ?_ ?_
  ·refine r_split 20 rfl (fun hb_7=>?_) (fun hb_7=>?_)
   ·have h:=ifT hb_7 hx_6
    refine aX 2 (sT [pR 1 0,(20,.d (.bool true)),(22,.d (.sl 1 (List.map e51 b.Needs)))] [(0,.var 83 (cv83 b))] 1 0) ?_
    refine r_lenX rfl rfl lenm ?_
    refine aX 3 (sT [pR 1 0,(20,.d (.bool true)),(23,jI (b.Needs.length:Int)),(26,.d (.sl 3 (List.map e67 b.Hair.Horses)))] [(0,.var 83 (cv83 b))] 1 0) ?_
    refine r_lenX rfl rfl lenm ?_
    refine aX 2 (sT [pR 1 0,(29,.d (.bool (decide ((b.Needs.length:Int)=(b.Hair.Horses.length:Int)))))] [(0,.var 83 (cv83 b))] 1 0) ?_
    obtain rfl:=Option.some.inj h
    refine RunC.finJ (Can.kp (by kernel_rfl))
   ·have h:=ifF hb_7 hx_6
    refine aX 9 (sT [pR 1 0,(29,.d (.bool false))] [(0,.var 83 (cv83 b))] 1 0) ?_
    obtain rfl:=Option.some.inj h
    refine RunC.finJ (Can.kp (by kernel_rfl))
  ·refine Au 1 (sT [pR 1 0,(30,.d (.bool v1))] [(0,.var 83 (cv83 b))] 1 0) ?_
   obtain ⟨v2,hx_8,h⟩:=bsome h
   refine RW.cut fokW 4 ((sT [pR 1 0,(34,.d (.bool v2))] [(0,.var 83 (cv83 b))] 1 0)) ?_ ?_
   ·refine r_split 30 rfl (fun hb_10=>?_) (fun hb_10=>?_)
    ·have h:=ifT hb_10 hx_8
     refine aX 2 (sT [pR 1 0,(30,.d (.bool true)),(32,jI b.Pack)] [(0,.var 83 (cv83 b))] 1 0) ?_
     obtain ⟨r0_1,hx_9,h⟩:=bsome h
     refine r_call rfl rfl (k107 b.Pack 1 12 _ hx_9) rfl rfl ?_
     refine aX 1 (sT [pR 1 0,(34,.d (.bool r0_1))] [(0,.var 83 (cv83 b))] 1 0) ?_
     obtain rfl:=Option.some.inj h
     refine RunC.finJ (Can.kp (by kernel_rfl))
    ·have h:=ifF hb_10 hx_8
     refine aX 4 (sT [pR 1 0,(34,.d (.bool false))] [(0,.var 83 (cv83 b))] 1 0) ?_
     obtain rfl:=Option.some.inj h
     refine RunC.finJ (Can.kp (by kernel_rfl))
   ·refine Au 1 (sT [pR 1 0,(35,.d (.bool v2))] [(0,.var 83 (cv83 b))] 1 0) ?_
    obtain ⟨v3,hx_11,h⟩:=bsome h
    refine RW.cut fokW 7 ((sT [pR 1 0,(42,.d (.bool v3))] [(0,.var 83 (cv83 b))] 1 0)) ?_ ?_
    ·refine r_split 35 rfl (fun hb_13=>?_) (fun hb_13=>?_)
     ·have h:=ifT hb_13 hx_11
      refine aX 5 (sT [pR 1 0,(35,.d (.bool true)),(37,jI b.Bad),(40,jI (wr (b.Pack - 1)))] [(0,.var 83 (cv83 b))] 1 0) ?_
      obtain ⟨r0_2,hx_12,h⟩:=bsome h
      refine r_call rfl rfl (k107 b.Bad 0 (wr (b.Pack - 1)) _ hx_12) rfl rfl ?_
      refine aX 1 (sT [pR 1 0,(42,.d (.bool r0_2))] [(0,.var 83 (cv83 b))] 1 0) ?_
      obtain rfl:=Option.some.inj h
      refine RunC.finJ (Can.kp (by kernel_rfl))
     ·have h:=ifF hb_13 hx_11
      refine aX 7 (sT [pR 1 0,(42,.d (.bool false))] [(0,.var 83 (cv83 b))] 1 0) ?_
      obtain rfl:=Option.some.inj h
      refine RunC.finJ (Can.kp (by kernel_rfl))
    ·refine Au 1 (sT [pR 1 0,(3,.d (.bool v3))] [(0,.var 83 (cv83 b))] 1 0) ?_
     refine RW.nil (hQ_1 _ ?_)
     refine AW.seqK fun K_14 hK_14=>AW.srwK fun Q_15 hQ_15=>?_
     refine Au 2 (sT [pR 1 0,(3,.d (.bool v3)),(44,.d (.sl 2 (List.map e33 b.Stock)))] [(0,.var 83 (cv83 b))] 1 0) ?_
     refine rL rfl ?_
     refine Au 1 (sT [pR 1 0,(3,.d (.bool v3)),(44,.d (.sl 2 (List.map e33 b.Stock))),(45,jI (b.Stock.length:Int)),(46,jI 0)] [(0,.var 83 (cv83 b))] 1 0) ?_
     refine RW.nil (hQ_15 _ ?_)
     refine AW.block ?_
     refine AW.sln (t:=44) rfl (fun hN_16=>?_)
     rw [List.length_map] at hN_16
     obtain ⟨out_16,hx_16,h⟩:=bsome h
     refine AW.evSK (fun (v4:Int) (ok:Bool)=>(sT [pR 1 0,(3,.d (.bool ok)),(44,.d (.sl 2 (List.map e33 b.Stock))),(45,jI (b.Stock.length:Int)),(46,jI v4)] [(0,.var 83 (cv83 b))] 1 0)) g48_16 hx_16 (Can.kp (by kernel_rfl)) (fun v4 p ok hi_16 hl_16 hp_16 c_16 h K_16 hK_16=>?_) (fun v4 ok hi_16 hl_16 hout=>?_)
     ·unfold g48_16 at h
      refine Sa (sT [pR 1 0,(3,.d (.bool ok)),(44,.d (.sl 2 (List.map e33 b.Stock))),(45,jI (b.Stock.length:Int)),(46,jI v4),(47,.d (.bool (decide (v4<(b.Stock.length:Int)))))] [(0,.var 83 (cv83 b))] 1 0) ?_
      refine AW.seqK (fun K_17 hK_17=>?_)
      refine AW.cond rfl (fun hb_18=>?_) (fun hb_18=>False.elim (by have:=of_decide_eq_false hb_18;omega))
      refine AW.skip (hK_17 _ ?_)
      refine AW.seqK (fun K_19 hK_19=>?_)
      refine AW.block ?_
      refine AW.srwK (fun Q_20 hQ_20=>?_)
      refine RW.one fokW (r_iaD trivial rfl rfl hi_16 (row:=e33 p) (mapget hp_16) (r_end ?_))
      refine Au 3 (sT [pR 1 0,(3,.d (.bool ok)),pR 5 1,(44,.d (.sl 2 (List.map e33 b.Stock))),(45,jI (b.Stock.length:Int)),(46,jI v4)] [(1,.var 33 [jI p.Low,jI p.High]),(0,.var 83 (cv83 b))] 2 0) ?_
      refine RW.nil (hQ_20 _ ?_)
      refine AW.rw ?_
      refine Au 2 (sT [pR 1 0,pR 5 1,(44,.d (.sl 2 (List.map e33 b.Stock))),(45,jI (b.Stock.length:Int)),(46,jI v4),(51,.d (.bool ok))] [(1,.var 33 [jI p.Low,jI p.High]),(0,.var 83 (cv83 b))] 2 0) ?_
      obtain ⟨v5,hx_22,h⟩:=bsome h
      refine RW.cut fokW 6 ((sT [pR 1 0,pR 5 1,(44,.d (.sl 2 (List.map e33 b.Stock))),(45,jI (b.Stock.length:Int)),(46,jI v4),(57,.d (.bool v5))] [(1,.var 33 [jI p.Low,jI p.High]),(0,.var 83 (cv83 b))] 2 0)) ?_ ?_
      ·refine r_split 51 rfl (fun hb_24=>?_) (fun hb_24=>?_)
       ·have h:=ifT hb_24 hx_22
        refine aX 4 (sT [pR 1 0,pR 5 1,(44,.d (.sl 2 (List.map e33 b.Stock))),(45,jI (b.Stock.length:Int)),(46,jI v4),(51,.d (.bool true)),(53,jI p.Low),(55,jI p.High)] [(1,.var 33 [jI p.Low,jI p.High]),(0,.var 83 (cv83 b))] 2 0) ?_
        obtain ⟨r0_3,hx_23,h⟩:=bsome h
        refine r_call rfl rfl (k107 p.Low 0 p.High _ hx_23) rfl rfl ?_
        refine aX 1 (sT [pR 1 0,pR 5 1,(44,.d (.sl 2 (List.map e33 b.Stock))),(45,jI (b.Stock.length:Int)),(46,jI v4),(57,.d (.bool r0_3))] [(1,.var 33 [jI p.Low,jI p.High]),(0,.var 83 (cv83 b))] 2 0) ?_
        obtain rfl:=Option.some.inj h
        refine RunC.finJ (Can.kp (by kernel_rfl))
       ·have h:=ifF hb_24 hx_22
        refine aX 6 (sT [pR 1 0,pR 5 1,(44,.d (.sl 2 (List.map e33 b.Stock))),(45,jI (b.Stock.length:Int)),(46,jI v4),(57,.d (.bool false))] [(1,.var 33 [jI p.Low,jI p.High]),(0,.var 83 (cv83 b))] 2 0) ?_
        obtain rfl:=Option.some.inj h
        refine RunC.finJ (Can.kp (by kernel_rfl))
      ·refine RW.au fokW 14 [58,63] (sT [pR 1 0,(3,.d (.bool ((v5&&(decide (p.High≤40)))&&(decide ((wr (p.High - p.Low))≤4))))),(44,.d (.sl 2 (List.map e33 b.Stock))),(45,jI (b.Stock.length:Int)),(46,jI v4)] [(0,.var 83 (cv83 b))] 2 0) (by kernel_rfl) ?_
       refine RW.nil ?_
       refine hK_19 _ ?_
       refine Ra (sT [pR 1 0,(3,.d (.bool ((v5&&(decide (p.High≤40)))&&(decide ((wr (p.High - p.Low))≤4))))),(44,.d (.sl 2 (List.map e33 b.Stock))),(45,jI (b.Stock.length:Int)),(46,jI (wr (v4+1)))] [(0,.var 83 (cv83 b))] 2 0) ?_
       obtain rfl:=Option.some.inj h
       have ew:wr (v4+1)=v4+1:=inext (N:=(b.Stock.length:Int)) (by omega) (by omega) (by omega)
       rw [ew]
       exact hK_16 _ (Can.kp (by kernel_rfl))
     ·subst hout
      refine Sa (sT [pR 1 0,(3,.d (.bool ok)),(44,.d (.sl 2 (List.map e33 b.Stock))),(45,jI (b.Stock.length:Int)),(46,jI v4),(47,.d (.bool (decide (v4<(b.Stock.length:Int)))))] [(0,.var 83 (cv83 b))] 1 0) ?_
      refine AW.seqK (fun K_25 hK_25=>?_)
      refine AW.cond rfl (fun hb_26=>False.elim (by have:=of_decide_eq_true hb_26;omega)) (fun hb_26=>?_)
      refine AW.exit ?_
      refine hK_14 _ ?_
      refine AW.seqK fun K_27 hK_27=>AW.srwK fun Q_28 hQ_28=>?_
      refine Au 2 (sT [pR 1 0,(3,.d (.bool ok)),(73,.d (.sl 1 (List.map e51 b.Needs)))] [(0,.var 83 (cv83 b))] 1 0) ?_
      refine rL rfl ?_
      refine Au 1 (sT [pR 1 0,(3,.d (.bool ok)),(73,.d (.sl 1 (List.map e51 b.Needs))),(74,jI (b.Needs.length:Int)),(75,jI 0)] [(0,.var 83 (cv83 b))] 1 0) ?_
      refine RW.nil (hQ_28 _ ?_)
      refine AW.block ?_
      refine AW.sln (t:=73) rfl (fun hN_29=>?_)
      rw [List.length_map] at hN_29
      obtain ⟨out_29,hx_29,h⟩:=bsome h
      refine AW.evSK (fun (v6:Int) (ok1:Bool)=>(sT [pR 1 0,(3,.d (.bool ok1)),(73,.d (.sl 1 (List.map e51 b.Needs))),(74,jI (b.Needs.length:Int)),(75,jI v6)] [(0,.var 83 (cv83 b))] 1 0)) (g48_29 b) hx_29 (Can.kp (by kernel_rfl)) (fun v6 p1 ok1 hi_29 hl_29 hp_29 c_29 h K_29 hK_29=>?_) (fun v6 ok1 hi_29 hl_29 hout=>?_)
      ·unfold g48_29 at h
       refine Sa (sT [pR 1 0,(3,.d (.bool ok1)),(73,.d (.sl 1 (List.map e51 b.Needs))),(74,jI (b.Needs.length:Int)),(75,jI v6),(76,.d (.bool (decide (v6<(b.Needs.length:Int)))))] [(0,.var 83 (cv83 b))] 1 0) ?_
       refine AW.seqK (fun K_30 hK_30=>?_)
       refine AW.cond rfl (fun hb_31=>?_) (fun hb_31=>False.elim (by have:=of_decide_eq_false hb_31;omega))
       refine AW.skip (hK_30 _ ?_)
       refine AW.seqK (fun K_32 hK_32=>?_)
       refine AW.block ?_
       refine AW.srwK (fun Q_33 hQ_33=>?_)
       refine RW.one fokW (r_iaD trivial rfl rfl hi_29 (row:=e51 p1) (mapget hp_29) (r_end ?_))
       refine Au 2 (sT [pR 1 0,(3,.d (.bool ok1)),(7,.d (.sl 1 (List.map e3 p1))),(73,.d (.sl 1 (List.map e51 b.Needs))),(74,jI (b.Needs.length:Int)),(75,jI v6)] [(0,.var 83 (cv83 b))] 1 0) ?_
       refine RW.nil (hQ_33 _ ?_)
       refine AW.srwK (fun Q_34 hQ_34=>?_)
       refine Au 2 (sT [pR 1 0,(7,.d (.sl 1 (List.map e3 p1))),(73,.d (.sl 1 (List.map e51 b.Needs))),(74,jI (b.Needs.length:Int)),(75,jI v6),(80,.d (.bool ok1))] [(0,.var 83 (cv83 b))] 1 0) ?_
       obtain ⟨v7,hx_35,h⟩:=bsome h
       refine RW.cut fokW 7 ((sT [pR 1 0,(7,.d (.sl 1 (List.map e3 p1))),(73,.d (.sl 1 (List.map e51 b.Needs))),(74,jI (b.Needs.length:Int)),(75,jI v6),(87,.d (.bool v7))] [(0,.var 83 (cv83 b))] 1 0)) ?_ ?_
       ·refine r_split 80 rfl (fun hb_36=>?_) (fun hb_36=>?_)
        ·have h:=ifT hb_36 hx_35
         refine aX 1 (sT [pR 1 0,(7,.d (.sl 1 (List.map e3 p1))),(73,.d (.sl 1 (List.map e51 b.Needs))),(74,jI (b.Needs.length:Int)),(75,jI v6),(80,.d (.bool true)),(81,.d (.sl 1 (List.map e3 p1)))] [(0,.var 83 (cv83 b))] 1 0) ?_
         refine r_lenX rfl rfl lenm ?_
         refine aX 2 (sT [pR 1 0,(7,.d (.sl 1 (List.map e3 p1))),(73,.d (.sl 1 (List.map e51 b.Needs))),(74,jI (b.Needs.length:Int)),(75,jI v6),(80,.d (.bool true)),(82,jI (p1.length:Int)),(84,.d (.sl 2 (List.map e33 b.Stock)))] [(0,.var 83 (cv83 b))] 1 0) ?_
         refine r_lenX rfl rfl lenm ?_
         refine aX 2 (sT [pR 1 0,(7,.d (.sl 1 (List.map e3 p1))),(73,.d (.sl 1 (List.map e51 b.Needs))),(74,jI (b.Needs.length:Int)),(75,jI v6),(87,.d (.bool (decide ((p1.length:Int)=(b.Stock.length:Int)))))] [(0,.var 83 (cv83 b))] 1 0) ?_
         obtain rfl:=Option.some.inj h
         refine RunC.finJ (Can.kp (by kernel_rfl))
        ·have h:=ifF hb_36 hx_35
         refine aX 7 (sT [pR 1 0,(7,.d (.sl 1 (List.map e3 p1))),(73,.d (.sl 1 (List.map e51 b.Needs))),(74,jI (b.Needs.length:Int)),(75,jI v6),(87,.d (.bool false))] [(0,.var 83 (cv83 b))] 1 0) ?_
         obtain rfl:=Option.some.inj h
         refine RunC.finJ (Can.kp (by kernel_rfl))
       ·refine Au 1 (sT [pR 1 0,(3,.d (.bool v7)),(7,.d (.sl 1 (List.map e3 p1))),(73,.d (.sl 1 (List.map e51 b.Needs))),(74,jI (b.Needs.length:Int)),(75,jI v6)] [(0,.var 83 (cv83 b))] 1 0) ?_
        refine RW.nil (hQ_34 _ ?_)
        refine AW.srwK (fun Q_37 hQ_37=>?_)
        refine Au 1 (sT [pR 1 0,(3,.d (.bool v7)),(73,.d (.sl 1 (List.map e51 b.Needs))),(74,jI (b.Needs.length:Int)),(75,jI v6),(88,.d (.sl 1 (List.map e3 p1)))] [(0,.var 83 (cv83 b))] 1 0) ?_
        refine rL rfl ?_
        refine Au 1 (sT [pR 1 0,(3,.d (.bool v7)),(73,.d (.sl 1 (List.map e51 b.Needs))),(74,jI (b.Needs.length:Int)),(75,jI v6),(88,.d (.sl 1 (List.map e3 p1))),(89,jI (p1.length:Int)),(90,jI 0)] [(0,.var 83 (cv83 b))] 1 0) ?_
        refine RW.nil (hQ_37 _ ?_)
        refine AW.block ?_
        refine AW.sln (t:=88) rfl (fun hN_38=>?_)
        rw [List.length_map] at hN_38
        obtain ⟨out_38,hx_38,h⟩:=bsome h
        refine AW.evSK (fun (v8:Int) (ok2:Bool)=>(sT [pR 1 0,(3,.d (.bool ok2)),(73,.d (.sl 1 (List.map e51 b.Needs))),(74,jI (b.Needs.length:Int)),(75,jI v6),(88,.d (.sl 1 (List.map e3 p1))),(89,jI (p1.length:Int)),(90,jI v8)] [(0,.var 83 (cv83 b))] 1 0)) g48_38 hx_38 (Can.kp (by kernel_rfl)) (fun v8 p2 ok2 hi_38 hl_38 hp_38 c_38 h K_38 hK_38=>?_) (fun v8 ok2 hi_38 hl_38 hout=>?_)
        ·unfold g48_38 at h
         refine Sa (sT [pR 1 0,(3,.d (.bool ok2)),(73,.d (.sl 1 (List.map e51 b.Needs))),(74,jI (b.Needs.length:Int)),(75,jI v6),(88,.d (.sl 1 (List.map e3 p1))),(89,jI (p1.length:Int)),(90,jI v8),(91,.d (.bool (decide (v8<(p1.length:Int)))))] [(0,.var 83 (cv83 b))] 1 0) ?_
         refine AW.seqK (fun K_39 hK_39=>?_)
         refine AW.cond rfl (fun hb_40=>?_) (fun hb_40=>False.elim (by have:=of_decide_eq_false hb_40;omega))
         refine AW.skip (hK_39 _ ?_)
         refine AW.seqK (fun K_41 hK_41=>?_)
         refine AW.block ?_
         refine AW.srwK (fun Q_42 hQ_42=>?_)
         refine RW.one fokW (r_iaD trivial rfl rfl hi_38 (row:=e3 p2) (mapget hp_38) (r_end ?_))
         refine Au 2 (sT [pR 1 0,(3,.d (.bool ok2)),(9,jI p2),(73,.d (.sl 1 (List.map e51 b.Needs))),(74,jI (b.Needs.length:Int)),(75,jI v6),(88,.d (.sl 1 (List.map e3 p1))),(89,jI (p1.length:Int)),(90,jI v8)] [(0,.var 83 (cv83 b))] 1 0) ?_
         refine RW.nil (hQ_42 _ ?_)
         refine AW.rw ?_
         refine Au 2 (sT [pR 1 0,(9,jI p2),(73,.d (.sl 1 (List.map e51 b.Needs))),(74,jI (b.Needs.length:Int)),(75,jI v6),(88,.d (.sl 1 (List.map e3 p1))),(89,jI (p1.length:Int)),(90,jI v8),(95,.d (.bool ok2))] [(0,.var 83 (cv83 b))] 1 0) ?_
         obtain ⟨v9,hx_44,h⟩:=bsome h
         refine RW.cut fokW 3 ((sT [pR 1 0,(73,.d (.sl 1 (List.map e51 b.Needs))),(74,jI (b.Needs.length:Int)),(75,jI v6),(88,.d (.sl 1 (List.map e3 p1))),(89,jI (p1.length:Int)),(90,jI v8),(98,.d (.bool v9))] [(0,.var 83 (cv83 b))] 1 0)) ?_ ?_
         ·refine r_split 95 rfl (fun hb_46=>?_) (fun hb_46=>?_)
          ·have h:=ifT hb_46 hx_44
           refine aX 1 (sT [pR 1 0,(73,.d (.sl 1 (List.map e51 b.Needs))),(74,jI (b.Needs.length:Int)),(75,jI v6),(88,.d (.sl 1 (List.map e3 p1))),(89,jI (p1.length:Int)),(90,jI v8),(95,.d (.bool true)),(96,jI p2)] [(0,.var 83 (cv83 b))] 1 0) ?_
           obtain ⟨r0_4,hx_45,h⟩:=bsome h
           refine r_call rfl rfl (k107 p2 0 9 _ hx_45) rfl rfl ?_
           refine aX 1 (sT [pR 1 0,(73,.d (.sl 1 (List.map e51 b.Needs))),(74,jI (b.Needs.length:Int)),(75,jI v6),(88,.d (.sl 1 (List.map e3 p1))),(89,jI (p1.length:Int)),(90,jI v8),(98,.d (.bool r0_4))] [(0,.var 83 (cv83 b))] 1 0) ?_
           obtain rfl:=Option.some.inj h
           refine RunC.finJ (Can.kp (by kernel_rfl))
          ·have h:=ifF hb_46 hx_44
           refine aX 3 (sT [pR 1 0,(73,.d (.sl 1 (List.map e51 b.Needs))),(74,jI (b.Needs.length:Int)),(75,jI v6),(88,.d (.sl 1 (List.map e3 p1))),(89,jI (p1.length:Int)),(90,jI v8),(98,.d (.bool false))] [(0,.var 83 (cv83 b))] 1 0) ?_
           obtain rfl:=Option.some.inj h
           refine RunC.finJ (Can.kp (by kernel_rfl))
         ·refine Au 1 (sT [pR 1 0,(3,.d (.bool v9)),(73,.d (.sl 1 (List.map e51 b.Needs))),(74,jI (b.Needs.length:Int)),(75,jI v6),(88,.d (.sl 1 (List.map e3 p1))),(89,jI (p1.length:Int)),(90,jI v8)] [(0,.var 83 (cv83 b))] 1 0) ?_
          refine RW.nil ?_
          refine hK_41 _ ?_
          refine Ra (sT [pR 1 0,(3,.d (.bool v9)),(73,.d (.sl 1 (List.map e51 b.Needs))),(74,jI (b.Needs.length:Int)),(75,jI v6),(88,.d (.sl 1 (List.map e3 p1))),(89,jI (p1.length:Int)),(90,jI (wr (v8+1)))] [(0,.var 83 (cv83 b))] 1 0) ?_
          obtain rfl:=Option.some.inj h
          have ew:wr (v8+1)=v8+1:=inext (N:=(p1.length:Int)) (by omega) (by omega) (by omega)
          rw [ew]
          exact hK_38 _ (Can.kp (by kernel_rfl))
        ·subst hout
         refine Sa (sT [pR 1 0,(3,.d (.bool ok2)),(73,.d (.sl 1 (List.map e51 b.Needs))),(74,jI (b.Needs.length:Int)),(75,jI v6),(88,.d (.sl 1 (List.map e3 p1))),(89,jI (p1.length:Int)),(90,jI v8),(91,.d (.bool (decide (v8<(p1.length:Int)))))] [(0,.var 83 (cv83 b))] 1 0) ?_
         refine AW.seqK (fun K_47 hK_47=>?_)
         refine AW.cond rfl (fun hb_48=>False.elim (by have:=of_decide_eq_true hb_48;omega)) (fun hb_48=>?_)
         refine AW.exit ?_
         refine hK_32 _ ?_
         refine Ra (sT [pR 1 0,(3,.d (.bool ok2)),(73,.d (.sl 1 (List.map e51 b.Needs))),(74,jI (b.Needs.length:Int)),(75,jI (wr (v6+1)))] [(0,.var 83 (cv83 b))] 1 0) ?_
         obtain rfl:=Option.some.inj h
         have ew:wr (v6+1)=v6+1:=inext (N:=(b.Needs.length:Int)) (by omega) (by omega) (by omega)
         rw [ew]
         exact hK_29 _ (Can.kp (by kernel_rfl))
      ·subst hout
       refine Sa (sT [pR 1 0,(3,.d (.bool ok1)),(73,.d (.sl 1 (List.map e51 b.Needs))),(74,jI (b.Needs.length:Int)),(75,jI v6),(76,.d (.bool (decide (v6<(b.Needs.length:Int)))))] [(0,.var 83 (cv83 b))] 1 0) ?_
       refine AW.seqK (fun K_49 hK_49=>?_)
       refine AW.cond rfl (fun hb_50=>False.elim (by have:=of_decide_eq_true hb_50;omega)) (fun hb_50=>?_)
       refine AW.exit ?_
       refine hK_27 _ ?_
       refine AW.seqK (fun K_51 hK_51=>?_)
       refine Sa (sT [(102,.d (.bool (!ok1)))] [] 1 0) ?_
       refine AW.cond rfl (fun hb_52=>?_) (fun hb_52=>?_)
       ·have h:=ifT hb_52 h
        refine Sa (sT [(2,jI 100)] [] 1 0) ?_
        obtain rfl:=Option.some.inj h
        exact rT hR_0 (.cons (.tmp rfl) .nil)
       ·have h:=ifF hb_52 h
        refine AW.skip (hK_51 _ ?_)
        refine Sa (sT [(2,jI 0)] [] 1 0) ?_
        obtain rfl:=Option.some.inj h
        exact rT hR_0 (.cons (.tmp rfl) .nil)
def g81_8 (v:Int) (p:HairHank):Int→(List (Hair_dye×Span))→Option (List (Hair_dye×Span)):=fun v1 m1=>(mput q124 m1 (Hair_dye.mk v v1) (Span.mk (wr (p.Shade.Low+v1)) (wr (p.Shade.High+v1)))).bind fun m2=>some m2
def g81_3 (x:HairBook):Int→HairHank→(List (Hair_dye×Span))→Option (List (Hair_dye×Span)):=fun v p m=>(forS (g81_8 v p) ((((wr (x.Dark+1)):Int) - 0).toNat) 0 m).bind fun m1=>some m1
def g81 (x:HairBook):Option (HairBook×(List (Hair_dye×Span))):=(eachS (g81_3 x) x.Hanks 0 ([]:List (Hair_dye×Span))).bind fun m=>some (x,m)
theorem k81 (x:HairBook) (r:HairBook×(List (Hair_dye×Span))) (h:g81 x=some r):SCall Tryd.prog Gs 81 [.agg [.d (.sl 4 (List.map e65 x.Hanks)),.d (.sl 3 (List.map e67 x.Horses)),jI x.Dark,jI x.Near,jI x.Match]] [] 0 Fr.emp (match r with | (r0_HairBook,mf)=>.agg [.d (.sl 4 (List.map e65 r0_HairBook.Hanks)),.d (.sl 3 (List.map e67 r0_HairBook.Horses)),jI r0_HairBook.Dark,jI r0_HairBook.Near,jI r0_HairBook.Match,.fmp (List.map m124_33 mf)]) [] 0 Fr.emp:=by
 unfold g81 at h
 refine SCall.mkK Tryd.func81 c81 rfl rfl (by kernel_rfl) (fun Q_0 hR_0 hN_0=>?_)
 refine Sa (sT [pR 1 0,pR 2 1] [(1,.var 119 [.d (.nilSl),.d (.nilSl),jI 0,jI 0,jI 0,.d (.nilMap)]),(0,.var 61 (cv61 x))] 2 0) ?_
 refine Sa (sT [pR 1 0,pR 2 1,pR 3 3] [(3,.var 119 (catV (cv61 x) [.map 2])),(2,.mp (List.map m124_33 [])),(1,.var 119 [.d (.nilSl),.d (.nilSl),jI 0,jI 0,jI 0,.d (.nilMap)]),(0,.var 61 (cv61 x))] 4 0) ?_
 refine AW.seqK fun K_1 hK_1=>AW.srwK fun Q_2 hQ_2=>?_
 refine Au 2 (sT [pR 1 0,pR 2 1,pR 3 3,(11,.d (.sl 4 (List.map e65 x.Hanks)))] [(3,.var 119 (catV (cv61 x) [.map 2])),(2,.mp (List.map m124_33 [])),(1,.var 119 [.d (.nilSl),.d (.nilSl),jI 0,jI 0,jI 0,.d (.nilMap)]),(0,.var 61 (cv61 x))] 4 0) ?_
 refine rL rfl ?_
 refine Au 1 (sT [pR 1 0,pR 2 1,pR 3 3,(11,.d (.sl 4 (List.map e65 x.Hanks))),(12,jI (x.Hanks.length:Int)),(13,jI 0)] [(3,.var 119 (catV (cv61 x) [.map 2])),(2,.mp (List.map m124_33 [])),(1,.var 119 [.d (.nilSl),.d (.nilSl),jI 0,jI 0,jI 0,.d (.nilMap)]),(0,.var 61 (cv61 x))] 4 0) ?_
 refine RW.nil (hQ_2 _ ?_)
 refine AW.block ?_
 refine AW.sln (t:=11) rfl (fun hN_3=>?_)
 rw [List.length_map] at hN_3
 obtain ⟨out_3,hx_3,h⟩:=bsome h
 refine AW.evSK (fun (v:Int) (m:List (Hair_dye×Span))=>(sT [pR 1 0,pR 2 1,pR 3 3,(11,.d (.sl 4 (List.map e65 x.Hanks))),(12,jI (x.Hanks.length:Int)),(13,jI v)] [(3,.var 119 (catV (cv61 x) [.map 2])),(2,.mp (List.map m124_33 m)),(1,.var 119 [.d (.nilSl),.d (.nilSl),jI 0,jI 0,jI 0,.d (.nilMap)]),(0,.var 61 (cv61 x))] 4 0)) (g81_3 x) hx_3 (Can.kp (by kernel_rfl)) (fun v p m hi_3 hl_3 hp_3 c_3 h K_3 hK_3=>?_) (fun v m hi_3 hl_3 hout=>?_)
 ·unfold g81_3 at h
  refine Sa (sT [pR 1 0,pR 2 1,pR 3 3,(11,.d (.sl 4 (List.map e65 x.Hanks))),(12,jI (x.Hanks.length:Int)),(13,jI v),(14,.d (.bool (decide (v<(x.Hanks.length:Int)))))] [(3,.var 119 (catV (cv61 x) [.map 2])),(2,.mp (List.map m124_33 m)),(1,.var 119 [.d (.nilSl),.d (.nilSl),jI 0,jI 0,jI 0,.d (.nilMap)]),(0,.var 61 (cv61 x))] 4 0) ?_
  refine AW.seqK (fun K_4 hK_4=>?_)
  refine AW.cond rfl (fun hb_5=>?_) (fun hb_5=>False.elim (by have:=of_decide_eq_false hb_5;omega))
  refine AW.skip (hK_4 _ ?_)
  refine AW.seqK (fun K_6 hK_6=>?_)
  refine AW.block ?_
  refine AW.srwK (fun Q_7 hQ_7=>?_)
  refine Au 1 (sT [pR 1 0,pR 2 1,pR 3 3,(11,.d (.sl 4 (List.map e65 x.Hanks))),(12,jI (x.Hanks.length:Int)),(13,jI v),(15,jI v)] [(3,.var 119 (catV (cv61 x) [.map 2])),(2,.mp (List.map m124_33 m)),(1,.var 119 [.d (.nilSl),.d (.nilSl),jI 0,jI 0,jI 0,.d (.nilMap)]),(0,.var 61 (cv61 x))] 4 0) ?_
  refine RW.one fokW (r_iaD trivial rfl rfl hi_3 (row:=e65 p) (mapget hp_3) (r_end ?_))
  refine Au 4 (sT [pR 1 0,pR 2 1,pR 3 3,(4,jI v),pR 5 4,(11,.d (.sl 4 (List.map e65 x.Hanks))),(12,jI (x.Hanks.length:Int)),(13,jI v)] [(4,.var 65 (cv65 p)),(3,.var 119 (catV (cv61 x) [.map 2])),(2,.mp (List.map m124_33 m)),(1,.var 119 [.d (.nilSl),.d (.nilSl),jI 0,jI 0,jI 0,.d (.nilMap)]),(0,.var 61 (cv61 x))] 5 0) ?_
  refine RW.nil (hQ_7 _ ?_)
  refine Sa (sT [pR 1 0,pR 2 1,pR 3 3,(4,jI v),pR 5 4,(11,.d (.sl 4 (List.map e65 x.Hanks))),(12,jI (x.Hanks.length:Int)),(13,jI v),(20,jI (wr (x.Dark+1))),(21,jI 0)] [(4,.var 65 (cv65 p)),(3,.var 119 (catV (cv61 x) [.map 2])),(2,.mp (List.map m124_33 m)),(1,.var 119 [.d (.nilSl),.d (.nilSl),jI 0,jI 0,jI 0,.d (.nilMap)]),(0,.var 61 (cv61 x))] 5 0) ?_
  refine AW.block ?_
  have hN_8:(wr (x.Dark+1))≤9223372036854775807:=(wr_range _).2
  obtain ⟨out_8,hx_8,h⟩:=bsome h
  refine AW.lpSK (fun (v1:Int) (m1:List (Hair_dye×Span))=>(sT [pR 1 0,pR 2 1,pR 3 3,(4,jI v),pR 5 4,(11,.d (.sl 4 (List.map e65 x.Hanks))),(12,jI (x.Hanks.length:Int)),(13,jI v),(20,jI (wr (x.Dark+1))),(21,jI v1)] [(4,.var 65 (cv65 p)),(3,.var 119 (catV (cv61 x) [.map 2])),(2,.mp (List.map m124_33 m1)),(1,.var 119 [.d (.nilSl),.d (.nilSl),jI 0,jI 0,jI 0,.d (.nilMap)]),(0,.var 61 (cv61 x))] 5 0)) (g81_8 v p) ((wr (x.Dark+1))) hx_8 (Can.kp (by kernel_rfl)) (fun v1 m1 hi_8 hl_8 c_8 h K_8 hK_8=>?_) (fun v1 m1 hi_8 hl_8 hout=>?_)
  ·unfold g81_8 at h
   refine Sa (sT [pR 1 0,pR 2 1,pR 3 3,(4,jI v),pR 5 4,(11,.d (.sl 4 (List.map e65 x.Hanks))),(12,jI (x.Hanks.length:Int)),(13,jI v),(20,jI (wr (x.Dark+1))),(21,jI v1),(22,.d (.bool (decide (v1<(wr (x.Dark+1))))))] [(4,.var 65 (cv65 p)),(3,.var 119 (catV (cv61 x) [.map 2])),(2,.mp (List.map m124_33 m1)),(1,.var 119 [.d (.nilSl),.d (.nilSl),jI 0,jI 0,jI 0,.d (.nilMap)]),(0,.var 61 (cv61 x))] 5 0) ?_
   refine AW.seqK (fun K_9 hK_9=>?_)
   refine AW.cond rfl (fun hb_10=>?_) (fun hb_10=>False.elim (by have:=of_decide_eq_false hb_10;omega))
   refine AW.skip (hK_9 _ ?_)
   refine AW.seqK (fun K_11 hK_11=>?_)
   refine AW.block ?_
   refine Sa (sT [pR 1 0,pR 2 1,pR 3 3,(4,jI v),pR 5 4,(6,jI v1),(11,.d (.sl 4 (List.map e65 x.Hanks))),(12,jI (x.Hanks.length:Int)),(13,jI v),(20,jI (wr (x.Dark+1))),(21,jI v1)] [(4,.var 65 (cv65 p)),(3,.var 119 (catV (cv61 x) [.map 2])),(2,.mp (List.map m124_33 m1)),(1,.var 119 [.d (.nilSl),.d (.nilSl),jI 0,jI 0,jI 0,.d (.nilMap)]),(0,.var 61 (cv61 x))] 5 0) ?_
   refine AW.rw ?_
   refine Au 16 (sT [pR 1 0,pR 2 1,pR 3 3,(4,jI v),pR 5 4,(11,.d (.sl 4 (List.map e65 x.Hanks))),(12,jI (x.Hanks.length:Int)),(13,jI v),(20,jI (wr (x.Dark+1))),(21,jI v1),(25,.map 2),(28,.agg [jI v,jI v1]),(39,.agg [jI (wr (p.Shade.Low+v1)),jI (wr (p.Shade.High+v1))])] [(4,.var 65 (cv65 p)),(3,.var 119 (catV (cv61 x) [.map 2])),(2,.mp (List.map m124_33 m1)),(1,.var 119 [.d (.nilSl),.d (.nilSl),jI 0,jI 0,jI 0,.d (.nilMap)]),(0,.var 61 (cv61 x))] 5 0) ?_
   obtain ⟨m2,hv_13,h⟩:=bsome h
   refine RW.one fokW (r_mput q124 e124 (fun x=>DV.a (e33 x)) trivial rfl rfl rfl rfl ft124 q124_ok (fun _=>rfl) rfl hv_13 (r_end ?_))
   refine RW.nil ?_
   refine hK_11 _ ?_
   refine Ra (sT [pR 1 0,pR 2 1,pR 3 3,(4,jI v),pR 5 4,(11,.d (.sl 4 (List.map e65 x.Hanks))),(12,jI (x.Hanks.length:Int)),(13,jI v),(20,jI (wr (x.Dark+1))),(21,jI (wr (v1+1)))] [(2,.mp (List.map m124_33 m2)),(4,.var 65 (cv65 p)),(3,.var 119 (catV (cv61 x) [.map 2])),(1,.var 119 [.d (.nilSl),.d (.nilSl),jI 0,jI 0,jI 0,.d (.nilMap)]),(0,.var 61 (cv61 x))] 5 0) ?_
   obtain rfl:=Option.some.inj h
   have ew:wr (v1+1)=v1+1:=inext (N:=(wr (x.Dark+1))) (by omega) (by omega) (by omega)
   rw [ew]
   exact hK_8 _ (Can.kp (by kernel_rfl))
  ·subst hout
   refine Sa (sT [pR 1 0,pR 2 1,pR 3 3,(4,jI v),pR 5 4,(11,.d (.sl 4 (List.map e65 x.Hanks))),(12,jI (x.Hanks.length:Int)),(13,jI v),(20,jI (wr (x.Dark+1))),(21,jI v1),(22,.d (.bool (decide (v1<(wr (x.Dark+1))))))] [(4,.var 65 (cv65 p)),(3,.var 119 (catV (cv61 x) [.map 2])),(2,.mp (List.map m124_33 m1)),(1,.var 119 [.d (.nilSl),.d (.nilSl),jI 0,jI 0,jI 0,.d (.nilMap)]),(0,.var 61 (cv61 x))] 5 0) ?_
   refine AW.seqK (fun K_14 hK_14=>?_)
   refine AW.cond rfl (fun hb_15=>False.elim (by have:=of_decide_eq_true hb_15;omega)) (fun hb_15=>?_)
   refine AW.exit ?_
   refine hK_6 _ ?_
   refine Ra (sT [pR 1 0,pR 2 1,pR 3 3,(11,.d (.sl 4 (List.map e65 x.Hanks))),(12,jI (x.Hanks.length:Int)),(13,jI (wr (v+1)))] [(3,.var 119 (catV (cv61 x) [.map 2])),(2,.mp (List.map m124_33 m1)),(1,.var 119 [.d (.nilSl),.d (.nilSl),jI 0,jI 0,jI 0,.d (.nilMap)]),(0,.var 61 (cv61 x))] 5 0) ?_
   obtain rfl:=Option.some.inj h
   have ew:wr (v+1)=v+1:=inext (N:=(x.Hanks.length:Int)) (by omega) (by omega) (by omega)
   rw [ew]
   exact hK_3 _ (Can.kp (by kernel_rfl))
 ·subst hout
  refine Sa (sT [pR 1 0,pR 2 1,pR 3 3,(11,.d (.sl 4 (List.map e65 x.Hanks))),(12,jI (x.Hanks.length:Int)),(13,jI v),(14,.d (.bool (decide (v<(x.Hanks.length:Int)))))] [(3,.var 119 (catV (cv61 x) [.map 2])),(2,.mp (List.map m124_33 m)),(1,.var 119 [.d (.nilSl),.d (.nilSl),jI 0,jI 0,jI 0,.d (.nilMap)]),(0,.var 61 (cv61 x))] 4 0) ?_
  refine AW.seqK (fun K_16 hK_16=>?_)
  refine AW.cond rfl (fun hb_17=>False.elim (by have:=of_decide_eq_true hb_17;omega)) (fun hb_17=>?_)
  refine AW.exit ?_
  refine hK_1 _ ?_
  refine Sa (sT [pR 2 1] [(1,.var 119 (catV (cv61 x) [.map 2])),(2,.mp (List.map m124_33 m))] 4 0) ?_
  obtain rfl:=Option.some.inj h
  exact AW.ret (hR_0 _ (retXM (.cons (.agg rfl rfl (Nat.le_of_ble_eq_true rfl)) .nil) (FrzR.agg_of ⟨.of (.refl _),.of (.refl _),.of (.refl _),.of (.refl _),.of (.refl _),.mp rfl,trivial⟩) rfl (by kernel_rfl) (by kernel_rfl)))
def g79 :Option Unit:=some ()
theorem k79  (r:Unit) (h:g79=some r):SCall Tryd.prog Gs 79 [] [] 0 Fr.emp (.agg [.d (.fn 118)]) [] 0 Fr.emp:=by
 unfold g79 at h
 refine SCall.mkK Tryd.func79 c79 rfl rfl (by kernel_rfl) (fun Q_0 hR_0 hN_0=>?_)
 refine Sa (sT [pR 0 0] [(0,.var 133 [.d (.nilFn)])] 1 0) ?_
 refine Sa (sT [pR 0 0] [(0,.var 133 [.d (.fn 118)])] 1 0) ?_
 obtain rfl:=Option.some.inj h
 exact rT hR_0 (.cons (.agg rfl rfl (Nat.le_of_ble_eq_true rfl)) .nil)
def g86 (b_HairBook:HairBook) (mf:List (Hair_dye×Span)) (m0_HairBook:HairBook) (mf_1:List (Hair_dye×Span)):Option (HairBook×(List (Hair_dye×Span))):=some (b_HairBook,mf)
theorem k86 (b_HairBook:HairBook) (mf:List (Hair_dye×Span)) (m0_HairBook:HairBook) (mf_1:List (Hair_dye×Span)) (r:HairBook×(List (Hair_dye×Span))) (h:g86 b_HairBook mf m0_HairBook mf_1=some r):SCall Tryd.prog Gs 86 [.agg [.d (.sl 4 (List.map e65 b_HairBook.Hanks)),.d (.sl 3 (List.map e67 b_HairBook.Horses)),jI b_HairBook.Dark,jI b_HairBook.Near,jI b_HairBook.Match,.fmp (List.map m124_33 mf)],.agg [.d (.fn 118)],.clo 87 [.agg [.d (.sl 4 (List.map e65 m0_HairBook.Hanks)),.d (.sl 3 (List.map e67 m0_HairBook.Horses)),jI m0_HairBook.Dark,jI m0_HairBook.Near,jI m0_HairBook.Match,.fmp (List.map m124_33 mf_1)]] []] [] 0 Fr.emp (match r with | (o0_HairBook,mf1)=>.clo 121 [] [.ptr 0 0,.ptr 1 0,.ptr 2 0]) (match r with | (o0_HairBook,mf1)=>[(0,.var 119 (catV (cv61 o0_HairBook) [.fmp (List.map m124_33 mf1)])),(1,.var 133 [.d (.fn 118)]),(2,.var 108 [.clo 87 [.agg [.d (.sl 4 (List.map e65 m0_HairBook.Hanks)),.d (.sl 3 (List.map e67 m0_HairBook.Horses)),jI m0_HairBook.Dark,jI m0_HairBook.Near,jI m0_HairBook.Match,.fmp (List.map m124_33 mf_1)]] []])]) 3 Fr.emp:=by
 unfold g86 at h
 refine SCall.mkK Tryd.func86 c86 rfl rfl (by kernel_rfl) (fun Q_0 hR_0 hN_0=>?_)
 refine Sa (sT [pR 3 0,pR 4 1,pR 5 2] [(2,.var 108 [.clo 87 [.agg [.d (.sl 4 (List.map e65 m0_HairBook.Hanks)),.d (.sl 3 (List.map e67 m0_HairBook.Horses)),jI m0_HairBook.Dark,jI m0_HairBook.Near,jI m0_HairBook.Match,.fmp (List.map m124_33 mf_1)]] []]),(1,.var 133 [.d (.fn 118)]),(0,.var 119 (catV (cv61 b_HairBook) [.fmp (List.map m124_33 mf)]))] 3 0) ?_
 refine Sa (sT [(6,.clo 121 [] [.ptr 0 0,.ptr 1 0,.ptr 2 0])] [(2,.var 108 [.clo 87 [.agg [.d (.sl 4 (List.map e65 m0_HairBook.Hanks)),.d (.sl 3 (List.map e67 m0_HairBook.Horses)),jI m0_HairBook.Dark,jI m0_HairBook.Near,jI m0_HairBook.Match,.fmp (List.map m124_33 mf_1)]] []]),(1,.var 133 [.d (.fn 118)]),(0,.var 119 (catV (cv61 b_HairBook) [.fmp (List.map m124_33 mf)]))] 3 0) ?_
 obtain rfl:=Option.some.inj h
 exact rT hR_0 (.cons (.tmp rfl) .nil)
def g117 :Option (Nat→Int):=some (arrL [0,0,0,0,0])
theorem k117  (r:(Nat→Int)) (h:g117=some r):SCall Tryd.prog Gs 117 [] [] 0 Fr.emp (.agg [jI (r 0),jI (r 1),jI (r 2),jI (r 3),jI (r 4)]) [] 0 Fr.emp:=by
 unfold g117 at h
 refine SCall.mkK Tryd.func117 c117 rfl rfl (by kernel_rfl) (fun Q_0 hR_0 hN_0=>?_)
 refine Sa (sT [pR 0 0] [(0,.var 128 [jI 0,jI 0,jI 0,jI 0,jI 0])] 1 0) ?_
 refine Sa (sT [pR 0 0,pR 1 1] [(1,.var 128 [jI 0,jI 0,jI 0,jI 0,jI 0]),(0,.var 128 [jI 0,jI 0,jI 0,jI 0,jI 0])] 2 0) ?_
 refine Sa (sT [pR 0 0] [(0,.var 128 [jI 0,jI 0,jI 0,jI 0,jI 0])] 2 0) ?_
 obtain rfl:=Option.some.inj h
 exact rT hR_0 (.cons (.agg rfl rfl (Nat.le_of_ble_eq_true rfl)) .nil)
def g154 (h_:HairHorse):Option Int:=some h_.Mane
theorem k154 (h_:HairHorse) (r:Int) (h:g154 h_=some r):SCall Tryd.prog Gs 154 [.agg [jI h_.Mane,jI h_.Tail,jI h_.Shade]] [] 0 Fr.emp (jI r) [] 0 Fr.emp:=by
 unfold g154 at h
 refine SCall.mkK Tryd.func154 c154 rfl rfl (by kernel_rfl) (fun Q_0 hR_0 hN_0=>?_)
 refine Sa (sT [pR 1 0] [(0,.var 185 [jI h_.Mane,jI h_.Tail,jI h_.Shade])] 1 0) ?_
 refine Sa (sT [(2,jI h_.Mane)] [] 1 0) ?_
 obtain rfl:=Option.some.inj h
 exact rT hR_0 (.cons (.tmp rfl) .nil)
def g161 (h_:HairHorse):Option Int:=some h_.Tail
theorem k161 (h_:HairHorse) (r:Int) (h:g161 h_=some r):SCall Tryd.prog Gs 161 [.agg [jI h_.Mane,jI h_.Tail,jI h_.Shade]] [] 0 Fr.emp (jI r) [] 0 Fr.emp:=by
 unfold g161 at h
 refine SCall.mkK Tryd.func161 c161 rfl rfl (by kernel_rfl) (fun Q_0 hR_0 hN_0=>?_)
 refine Sa (sT [pR 1 0] [(0,.var 185 [jI h_.Mane,jI h_.Tail,jI h_.Shade])] 1 0) ?_
 refine Sa (sT [(2,jI h_.Tail)] [] 1 0) ?_
 obtain rfl:=Option.some.inj h
 exact rT hR_0 (.cons (.tmp rfl) .nil)
def g118 (s:Span):Option Int:=some s.Low
theorem k118 (s:Span) (r:Int) (h:g118 s=some r):SCall Tryd.prog Gs 118 [.agg [jI s.Low,jI s.High]] [] 0 Fr.emp (jI r) [] 0 Fr.emp:=by
 unfold g118 at h
 refine SCall.mkK Tryd.func118 c118 rfl rfl (by kernel_rfl) (fun Q_0 hR_0 hN_0=>?_)
 refine Sa (sT [pR 1 0] [(0,.var 33 [jI s.Low,jI s.High])] 1 0) ?_
 refine Sa (sT [(2,jI s.Low)] [] 1 0) ?_
 obtain rfl:=Option.some.inj h
 exact rT hR_0 (.cons (.tmp rfl) .nil)
def g135_3:Int→Int→Int→Option Int:=fun v p first1=>some (max first1 p)
def g135 (first:Int) (l:(List Int)):Option Int:=(eachS g135_3 l 0 first).bind fun first1=>some first1
theorem k135 (first:Int) (l:(List Int)) (r:Int) (h:g135 first l=some r):SCall Tryd.prog Gs 135 [jI first,.d (.sl 1 (List.map e3 l))] [] 0 Fr.emp (jI r) [] 0 Fr.emp:=by
 unfold g135 at h
 refine SCall.mkK Tryd.func135 c135 rfl rfl (by kernel_rfl) (fun Q_0 hR_0 hN_0=>?_)
 refine Sa (sT [(0,jI first),(1,.d (.sl 1 (List.map e3 l)))] [] 0 0) ?_
 refine AW.seqK fun K_1 hK_1=>AW.srwK fun Q_2 hQ_2=>?_
 refine Au 1 (sT [(0,jI first),(7,.d (.sl 1 (List.map e3 l)))] [] 0 0) ?_
 refine rL rfl ?_
 refine Au 1 (sT [(0,jI first),(7,.d (.sl 1 (List.map e3 l))),(8,jI (l.length:Int)),(9,jI 0)] [] 0 0) ?_
 refine RW.nil (hQ_2 _ ?_)
 refine AW.block ?_
 refine AW.sln (t:=7) rfl (fun hN_3=>?_)
 rw [List.length_map] at hN_3
 obtain ⟨out_3,hx_3,h⟩:=bsome h
 refine AW.evSK (fun (v:Int) (first1:Int)=>(sT [(0,jI first1),(7,.d (.sl 1 (List.map e3 l))),(8,jI (l.length:Int)),(9,jI v)] [] 0 0)) g135_3 hx_3 (Can.kp (by kernel_rfl)) (fun v p first1 hi_3 hl_3 hp_3 c_3 h K_3 hK_3=>?_) (fun v first1 hi_3 hl_3 hout=>?_)
 ·unfold g135_3 at h
  refine Sa (sT [(0,jI first1),(7,.d (.sl 1 (List.map e3 l))),(8,jI (l.length:Int)),(9,jI v),(10,.d (.bool (decide (v<(l.length:Int)))))] [] 0 0) ?_
  refine AW.seqK (fun K_4 hK_4=>?_)
  refine AW.cond rfl (fun hb_5=>?_) (fun hb_5=>False.elim (by have:=of_decide_eq_false hb_5;omega))
  refine AW.skip (hK_4 _ ?_)
  refine AW.seqK (fun K_6 hK_6=>?_)
  refine AW.block ?_
  refine AW.srwK (fun Q_7 hQ_7=>?_)
  refine RW.one fokW (r_iaD trivial rfl rfl hi_3 (row:=e3 p) (mapget hp_3) (r_end ?_))
  refine Au 2 (sT [(0,jI first1),(6,jI p),(7,.d (.sl 1 (List.map e3 l))),(8,jI (l.length:Int)),(9,jI v)] [] 0 0) ?_
  refine RW.nil (hQ_7 _ ?_)
  refine Ra (sT [(0,jI (max first1 p)),(7,.d (.sl 1 (List.map e3 l))),(8,jI (l.length:Int)),(9,jI v)] [] 0 0) ?_
  refine hK_6 _ ?_
  refine Ra (sT [(0,jI (max first1 p)),(7,.d (.sl 1 (List.map e3 l))),(8,jI (l.length:Int)),(9,jI (wr (v+1)))] [] 0 0) ?_
  obtain rfl:=Option.some.inj h
  have ew:wr (v+1)=v+1:=inext (N:=(l.length:Int)) (by omega) (by omega) (by omega)
  rw [ew]
  exact hK_3 _ (Can.kp (by kernel_rfl))
 ·subst hout
  refine Sa (sT [(0,jI first1),(7,.d (.sl 1 (List.map e3 l))),(8,jI (l.length:Int)),(9,jI v),(10,.d (.bool (decide (v<(l.length:Int)))))] [] 0 0) ?_
  refine AW.seqK (fun K_8 hK_8=>?_)
  refine AW.cond rfl (fun hb_9=>False.elim (by have:=of_decide_eq_true hb_9;omega)) (fun hb_9=>?_)
  refine AW.exit ?_
  refine hK_1 _ ?_
  refine Sa (sT [(4,jI first1)] [] 0 0) ?_
  obtain rfl:=Option.some.inj h
  exact rT hR_0 (.cons (.tmp rfl) .nil)
def g114 (b_HairBook:HairBook) (mf:List (Hair_dye×Span)) (horse:Int) (mane:Hair_dye) (tail:Hair_dye):Option Bool:=(ixL b_HairBook.Horses horse).bind fun p=>(g135 (wr ((((mget q124 mf mane).getD (Span.mk 0 0)).High) - p.Shade)) [(wr (p.Shade - (((mget q124 mf mane).getD (Span.mk 0 0)).Low))),(wr ((((mget q124 mf tail).getD (Span.mk 0 0)).High) - p.Shade)),(wr (p.Shade - (((mget q124 mf tail).getD (Span.mk 0 0)).Low)))]).bind fun r0=>bif (decide (b_HairBook.Near<r0)) then (some false) else (bif (decide (mane.hank=tail.hank)) then ((bif (false != ((mane.hank==tail.hank)&&((mane.steps==tail.steps)&&true))) then (some true) else ((g69 (wr (mane.steps - tail.steps)) (wr (-b_HairBook.Match)) b_HairBook.Match).bind fun r0_1=>some r0_1)).bind fun v=>some v) else ((g135 (wr ((((mget q124 mf mane).getD (Span.mk 0 0)).High) - (((mget q124 mf tail).getD (Span.mk 0 0)).Low))) [(wr ((((mget q124 mf tail).getD (Span.mk 0 0)).High) - (((mget q124 mf mane).getD (Span.mk 0 0)).Low)))]).bind fun r0_2=>some (decide (r0_2≤b_HairBook.Match))))
theorem k114 (b_HairBook:HairBook) (mf:List (Hair_dye×Span)) (horse:Int) (mane:Hair_dye) (tail:Hair_dye) (r:Bool) (h:g114 b_HairBook mf horse mane tail=some r):SCall Tryd.prog Gs 114 [.agg [.d (.sl 4 (List.map e65 b_HairBook.Hanks)),.d (.sl 3 (List.map e67 b_HairBook.Horses)),jI b_HairBook.Dark,jI b_HairBook.Near,jI b_HairBook.Match,.fmp (List.map m124_33 mf)],jI horse,.agg [jI mane.hank,jI mane.steps],.agg [jI tail.hank,jI tail.steps]] [] 0 Fr.emp (.d (.bool r)) [] 0 Fr.emp:=by
 unfold g114 at h
 refine SCall.mkK Tryd.func114 c114 rfl rfl (by kernel_rfl) (fun Q_0 hR_0 hN_0=>?_)
 refine Sa (sT [(1,jI horse),pR 4 0,pR 6 1,pR 7 2] [(2,.var 124 [jI tail.hank,jI tail.steps]),(1,.var 124 [jI mane.hank,jI mane.steps]),(0,.var 119 (catV (cv61 b_HairBook) [.fmp (List.map m124_33 mf)]))] 3 0) ?_
 refine AW.srwK (fun Q_1 hQ_1=>?_)
 refine Au 4 (sT [pR 4 0,pR 6 1,pR 7 2,(14,.d (.sl 3 (List.map e67 b_HairBook.Horses))),(15,jI horse)] [(2,.var 124 [jI tail.hank,jI tail.steps]),(1,.var 124 [jI mane.hank,jI mane.steps]),(0,.var 119 (catV (cv61 b_HairBook) [.fmp (List.map m124_33 mf)]))] 3 0) ?_
 obtain ⟨p,hv_2,h⟩:=bsome h
 refine RW.one fokW (r_iaD trivial rfl rfl (ixL_ok hv_2).1 (row:=e67 p) (mapget (ixL_ok hv_2).2) (r_end ?_))
 refine Au 3 (sT [pR 4 0,pR 6 1,pR 7 2,(9,jI p.Shade)] [(2,.var 124 [jI tail.hank,jI tail.steps]),(1,.var 124 [jI mane.hank,jI mane.steps]),(0,.var 119 (catV (cv61 b_HairBook) [.fmp (List.map m124_33 mf)]))] 3 0) ?_
 refine RW.nil (hQ_1 _ ?_)
 refine AW.sdrwK fokW (fun Q_3 hQ_3=>?_)
 refine aX 3 (sT [pR 4 0,pR 6 1,pR 7 2,(9,jI p.Shade),(20,.fmp (List.map m124_33 mf)),(21,.agg [jI mane.hank,jI mane.steps])] [(2,.var 124 [jI tail.hank,jI tail.steps]),(1,.var 124 [jI mane.hank,jI mane.steps]),(0,.var 119 (catV (cv61 b_HairBook) [.fmp (List.map m124_33 mf)]))] 3 0) ?_
 refine r_lookFA q124 e124 e33 mf mane (Span.mk 0 0) trivial rfl rfl ft124 q124_ok (fun _=>rfl) rfl ?_
 refine aX 3 (sT [pR 4 0,pR 6 1,pR 7 2,(9,jI p.Shade),(22,.agg [jI (((mget q124 mf mane).getD (Span.mk 0 0)).Low),jI (((mget q124 mf mane).getD (Span.mk 0 0)).High)]),(24,.fmp (List.map m124_33 mf)),(25,.agg [jI tail.hank,jI tail.steps])] [(2,.var 124 [jI tail.hank,jI tail.steps]),(1,.var 124 [jI mane.hank,jI mane.steps]),(0,.var 119 (catV (cv61 b_HairBook) [.fmp (List.map m124_33 mf)]))] 3 0) ?_
 refine r_lookFA q124 e124 e33 mf tail (Span.mk 0 0) trivial rfl rfl ft124 q124_ok (fun _=>rfl) rfl ?_
 refine aX 4 (sT [pR 4 0,pR 6 1,pR 7 2,(9,jI p.Shade),pR 10 3,pR 11 4] [(4,.var 33 [jI (((mget q124 mf tail).getD (Span.mk 0 0)).Low),jI (((mget q124 mf tail).getD (Span.mk 0 0)).High)]),(3,.var 33 [jI (((mget q124 mf mane).getD (Span.mk 0 0)).Low),jI (((mget q124 mf mane).getD (Span.mk 0 0)).High)]),(2,.var 124 [jI tail.hank,jI tail.steps]),(1,.var 124 [jI mane.hank,jI mane.steps]),(0,.var 119 (catV (cv61 b_HairBook) [.fmp (List.map m124_33 mf)]))] 5 0) ?_
 refine Fi (sT [pR 4 0,pR 6 1,pR 7 2,(9,jI p.Shade),pR 10 3,pR 11 4] [(4,.var 33 [jI (((mget q124 mf tail).getD (Span.mk 0 0)).Low),jI (((mget q124 mf tail).getD (Span.mk 0 0)).High)]),(3,.var 33 [jI (((mget q124 mf mane).getD (Span.mk 0 0)).Low),jI (((mget q124 mf mane).getD (Span.mk 0 0)).High)]),(2,.var 124 [jI tail.hank,jI tail.steps]),(1,.var 124 [jI mane.hank,jI mane.steps]),(0,.var 119 (catV (cv61 b_HairBook) [.fmp (List.map m124_33 mf)]))] 5 0) ?_
 refine hQ_3 _ ?_
 refine AW.seqK (fun K_4 hK_4=>?_)
 refine AW.sdrwK fokW (fun Q_5 hQ_5=>?_)
 refine aX 17 (sT [pR 4 0,pR 6 1,pR 7 2,pR 10 3,pR 11 4,(30,jI (wr ((((mget q124 mf mane).getD (Span.mk 0 0)).High) - p.Shade))),(43,.own 5 (List.map e3 [(wr (p.Shade - (((mget q124 mf mane).getD (Span.mk 0 0)).Low))),(wr ((((mget q124 mf tail).getD (Span.mk 0 0)).High) - p.Shade)),(wr (p.Shade - (((mget q124 mf tail).getD (Span.mk 0 0)).Low)))]).length)] [(5,.row 3 1 (List.map e3 [(wr (p.Shade - (((mget q124 mf mane).getD (Span.mk 0 0)).Low))),(wr ((((mget q124 mf tail).getD (Span.mk 0 0)).High) - p.Shade)),(wr (p.Shade - (((mget q124 mf tail).getD (Span.mk 0 0)).Low)))])),(4,.var 33 [jI (((mget q124 mf tail).getD (Span.mk 0 0)).Low),jI (((mget q124 mf tail).getD (Span.mk 0 0)).High)]),(3,.var 33 [jI (((mget q124 mf mane).getD (Span.mk 0 0)).Low),jI (((mget q124 mf mane).getD (Span.mk 0 0)).High)]),(2,.var 124 [jI tail.hank,jI tail.steps]),(1,.var 124 [jI mane.hank,jI mane.steps]),(0,.var 119 (catV (cv61 b_HairBook) [.fmp (List.map m124_33 mf)]))] 6 0) ?_
 obtain ⟨r0,hx_6,h⟩:=bsome h
 refine r_callF (rs:=[(5,.row 3 1 (List.map e3 [(wr (p.Shade - (((mget q124 mf mane).getD (Span.mk 0 0)).Low))),(wr ((((mget q124 mf tail).getD (Span.mk 0 0)).High) - p.Shade)),(wr (p.Shade - (((mget q124 mf tail).getD (Span.mk 0 0)).Low)))]))]) trivial rfl (k135 (wr ((((mget q124 mf mane).getD (Span.mk 0 0)).High) - p.Shade)) [(wr (p.Shade - (((mget q124 mf mane).getD (Span.mk 0 0)).Low))),(wr ((((mget q124 mf tail).getD (Span.mk 0 0)).High) - p.Shade)),(wr (p.Shade - (((mget q124 mf tail).getD (Span.mk 0 0)).Low)))] _ hx_6) ⟨rfl,trivial⟩ ⟨.refl _,(.own rfl rfl),trivial⟩ rfl rfl rfl ?_
 refine aX 4 (sT [pR 4 0,pR 6 1,pR 7 2,pR 10 3,pR 11 4,(48,.d (.bool (decide (b_HairBook.Near<r0))))] [(5,.row 3 1 (List.map e3 [(wr (p.Shade - (((mget q124 mf mane).getD (Span.mk 0 0)).Low))),(wr ((((mget q124 mf tail).getD (Span.mk 0 0)).High) - p.Shade)),(wr (p.Shade - (((mget q124 mf tail).getD (Span.mk 0 0)).Low)))])),(4,.var 33 [jI (((mget q124 mf tail).getD (Span.mk 0 0)).Low),jI (((mget q124 mf tail).getD (Span.mk 0 0)).High)]),(3,.var 33 [jI (((mget q124 mf mane).getD (Span.mk 0 0)).Low),jI (((mget q124 mf mane).getD (Span.mk 0 0)).High)]),(2,.var 124 [jI tail.hank,jI tail.steps]),(1,.var 124 [jI mane.hank,jI mane.steps]),(0,.var 119 (catV (cv61 b_HairBook) [.fmp (List.map m124_33 mf)]))] 6 0) ?_
 refine Fi (sT [pR 4 0,pR 6 1,pR 7 2,pR 10 3,pR 11 4,(48,.d (.bool (decide (b_HairBook.Near<r0))))] [(4,.var 33 [jI (((mget q124 mf tail).getD (Span.mk 0 0)).Low),jI (((mget q124 mf tail).getD (Span.mk 0 0)).High)]),(3,.var 33 [jI (((mget q124 mf mane).getD (Span.mk 0 0)).Low),jI (((mget q124 mf mane).getD (Span.mk 0 0)).High)]),(2,.var 124 [jI tail.hank,jI tail.steps]),(1,.var 124 [jI mane.hank,jI mane.steps]),(0,.var 119 (catV (cv61 b_HairBook) [.fmp (List.map m124_33 mf)]))] 6 0) ?_
 refine hQ_5 _ ?_
 refine AW.cond rfl (fun hb_7=>?_) (fun hb_7=>?_)
 ·have h:=ifT hb_7 h
  refine Sa (sT [(8,.d (.bool false))] [] 6 0) ?_
  obtain rfl:=Option.some.inj h
  exact rT hR_0 (.cons (.tmp rfl) .nil)
 ·have h:=ifF hb_7 h
  refine AW.skip (hK_4 _ ?_)
  refine AW.seqK (fun K_8 hK_8=>?_)
  refine Sa (sT [pR 4 0,pR 6 1,pR 7 2,pR 10 3,pR 11 4,(53,.d (.bool (decide (mane.hank=tail.hank))))] [(4,.var 33 [jI (((mget q124 mf tail).getD (Span.mk 0 0)).Low),jI (((mget q124 mf tail).getD (Span.mk 0 0)).High)]),(3,.var 33 [jI (((mget q124 mf mane).getD (Span.mk 0 0)).Low),jI (((mget q124 mf mane).getD (Span.mk 0 0)).High)]),(2,.var 124 [jI tail.hank,jI tail.steps]),(1,.var 124 [jI mane.hank,jI mane.steps]),(0,.var 119 (catV (cv61 b_HairBook) [.fmp (List.map m124_33 mf)]))] 6 0) ?_
  refine AW.cond rfl (fun hb_9=>?_) (fun hb_9=>?_)
  ·have h:=ifT hb_9 h
   refine AW.srwK (fun Q_10 hQ_10=>?_)
   refine Au 2 (sT [pR 4 0,pR 6 1,pR 7 2,(54,.agg [jI mane.hank,jI mane.steps]),(55,.agg [jI tail.hank,jI tail.steps])] [(2,.var 124 [jI tail.hank,jI tail.steps]),(1,.var 124 [jI mane.hank,jI mane.steps]),(0,.var 119 (catV (cv61 b_HairBook) [.fmp (List.map m124_33 mf)]))] 6 0) ?_
   refine RW.one fokW (r_aeq trivial rfl rfl rfl rfl ft124 rfl rfl rfl (r_end ?_))
   refine Au 1 (sT [pR 4 0,pR 6 1,pR 7 2,(57,.d (.bool (false != ((mane.hank==tail.hank)&&((mane.steps==tail.steps)&&true)))))] [(2,.var 124 [jI tail.hank,jI tail.steps]),(1,.var 124 [jI mane.hank,jI mane.steps]),(0,.var 119 (catV (cv61 b_HairBook) [.fmp (List.map m124_33 mf)]))] 6 0) ?_
   obtain ⟨v,hx_11,h⟩:=bsome h
   refine RW.cut fokW 14 ((sT [(71,.d (.bool v))] [] 6 0)) ?_ ?_
   ·refine r_split 57 rfl (fun hb_13=>?_) (fun hb_13=>?_)
    ·have h:=ifT hb_13 hx_11
     refine aX 14 (sT [(71,.d (.bool true))] [(2,.var 124 [jI tail.hank,jI tail.steps]),(1,.var 124 [jI mane.hank,jI mane.steps]),(0,.var 119 (catV (cv61 b_HairBook) [.fmp (List.map m124_33 mf)]))] 6 0) ?_
     obtain rfl:=Option.some.inj h
     refine RunC.finJ (Can.kp (by kernel_rfl))
    ·have h:=ifF hb_13 hx_11
     refine aX 12 (sT [(57,.d (.bool false)),(62,jI (wr (mane.steps - tail.steps))),(66,jI (wr (-b_HairBook.Match))),(69,jI b_HairBook.Match)] [(2,.var 124 [jI tail.hank,jI tail.steps]),(1,.var 124 [jI mane.hank,jI mane.steps]),(0,.var 119 (catV (cv61 b_HairBook) [.fmp (List.map m124_33 mf)]))] 6 0) ?_
     obtain ⟨r0_1,hx_12,h⟩:=bsome h
     refine r_call rfl rfl (k69 (wr (mane.steps - tail.steps)) (wr (-b_HairBook.Match)) b_HairBook.Match _ hx_12) rfl rfl ?_
     refine aX 1 (sT [(71,.d (.bool r0_1))] [(2,.var 124 [jI tail.hank,jI tail.steps]),(1,.var 124 [jI mane.hank,jI mane.steps]),(0,.var 119 (catV (cv61 b_HairBook) [.fmp (List.map m124_33 mf)]))] 6 0) ?_
     obtain rfl:=Option.some.inj h
     refine RunC.finJ (Can.kp (by kernel_rfl))
   ·refine Au 1 (sT [(8,.d (.bool v))] [] 6 0) ?_
    refine RW.nil (hQ_10 _ ?_)
    obtain rfl:=Option.some.inj h
    exact rT hR_0 (.cons (.tmp rfl) .nil)
  ·have h:=ifF hb_9 h
   refine AW.skip (hK_8 _ ?_)
   refine AW.sdrwK fokW (fun Q_14 hQ_14=>?_)
   refine aX 11 (sT [pR 4 0,(76,jI (wr ((((mget q124 mf mane).getD (Span.mk 0 0)).High) - (((mget q124 mf tail).getD (Span.mk 0 0)).Low)))),(82,.own 6 (List.map e3 [(wr ((((mget q124 mf tail).getD (Span.mk 0 0)).High) - (((mget q124 mf mane).getD (Span.mk 0 0)).Low)))]).length)] [(6,.row 3 1 (List.map e3 [(wr ((((mget q124 mf tail).getD (Span.mk 0 0)).High) - (((mget q124 mf mane).getD (Span.mk 0 0)).Low)))])),(4,.var 33 [jI (((mget q124 mf tail).getD (Span.mk 0 0)).Low),jI (((mget q124 mf tail).getD (Span.mk 0 0)).High)]),(3,.var 33 [jI (((mget q124 mf mane).getD (Span.mk 0 0)).Low),jI (((mget q124 mf mane).getD (Span.mk 0 0)).High)]),(2,.var 124 [jI tail.hank,jI tail.steps]),(1,.var 124 [jI mane.hank,jI mane.steps]),(0,.var 119 (catV (cv61 b_HairBook) [.fmp (List.map m124_33 mf)]))] 7 0) ?_
   obtain ⟨r0_2,hx_15,h⟩:=bsome h
   refine r_callF (rs:=[(6,.row 3 1 (List.map e3 [(wr ((((mget q124 mf tail).getD (Span.mk 0 0)).High) - (((mget q124 mf mane).getD (Span.mk 0 0)).Low)))]))]) trivial rfl (k135 (wr ((((mget q124 mf mane).getD (Span.mk 0 0)).High) - (((mget q124 mf tail).getD (Span.mk 0 0)).Low))) [(wr ((((mget q124 mf tail).getD (Span.mk 0 0)).High) - (((mget q124 mf mane).getD (Span.mk 0 0)).Low)))] _ hx_15) ⟨rfl,trivial⟩ ⟨.refl _,(.own rfl rfl),trivial⟩ rfl rfl rfl ?_
   refine aX 5 (sT [(8,.d (.bool (decide (r0_2≤b_HairBook.Match))))] [(6,.row 3 1 (List.map e3 [(wr ((((mget q124 mf tail).getD (Span.mk 0 0)).High) - (((mget q124 mf mane).getD (Span.mk 0 0)).Low)))])),(4,.var 33 [jI (((mget q124 mf tail).getD (Span.mk 0 0)).Low),jI (((mget q124 mf tail).getD (Span.mk 0 0)).High)]),(3,.var 33 [jI (((mget q124 mf mane).getD (Span.mk 0 0)).Low),jI (((mget q124 mf mane).getD (Span.mk 0 0)).High)]),(2,.var 124 [jI tail.hank,jI tail.steps]),(1,.var 124 [jI mane.hank,jI mane.steps]),(0,.var 119 (catV (cv61 b_HairBook) [.fmp (List.map m124_33 mf)]))] 7 0) ?_
   refine Fi (sT [(8,.d (.bool (decide (r0_2≤b_HairBook.Match))))] [] 7 0) ?_
   refine hQ_14 _ ?_
   obtain rfl:=Option.some.inj h
   exact rT hR_0 (.cons (.tmp rfl) .nil)
def g71_6 (b_HairBook:HairBook) (mf:List (Hair_dye×Span)) (horse:Int) (mane:Int) (tail:Int) (v:Int):Int→Unit→Option (Ctl (Unit) (Ctl (Unit) (Hair_dye×Hair_dye×Bool))):=fun v1 _=>(g114 b_HairBook mf horse (Hair_dye.mk mane v) (Hair_dye.mk tail v1)).bind fun r0_5=>bif r0_5 then (some (.brk (.brk ((Hair_dye.mk mane v),(Hair_dye.mk tail v1),true)))) else (some (.next ()))
def g71_2 (b_HairBook:HairBook) (mf:List (Hair_dye×Span)) (horse:Int) (mane:Int) (tail:Int):Int→Unit→Option (Ctl (Unit) (Hair_dye×Hair_dye×Bool)):=fun v _=>bindC (forC (g71_6 b_HairBook mf horse mane tail v) ((((wr (b_HairBook.Dark+1)):Int) - 0).toNat) 0 ()) fun _=>some (.next ())
def g71 (b_HairBook:HairBook) (mf:List (Hair_dye×Span)) (horse:Int) (mane:Int) (tail:Int):Option (Hair_dye×Hair_dye×Bool):=bindC (forC (g71_2 b_HairBook mf horse mane tail) ((((wr (b_HairBook.Dark+1)):Int) - 0).toNat) 0 ()) fun _=>some ((Hair_dye.mk 0 0),(Hair_dye.mk 0 0),false)
theorem k71 (b_HairBook:HairBook) (mf:List (Hair_dye×Span)) (horse:Int) (mane:Int) (tail:Int) (r:Hair_dye×Hair_dye×Bool) (h:g71 b_HairBook mf horse mane tail=some r):SCall Tryd.prog Gs 71 [.agg [.d (.sl 4 (List.map e65 b_HairBook.Hanks)),.d (.sl 3 (List.map e67 b_HairBook.Horses)),jI b_HairBook.Dark,jI b_HairBook.Near,jI b_HairBook.Match,.fmp (List.map m124_33 mf)],jI horse,jI mane,jI tail] [] 0 Fr.emp (match r with | (r0_1,r1_1,r2_1)=>.tup [.agg [jI r0_1.hank,jI r0_1.steps],.agg [jI r1_1.hank,jI r1_1.steps],.d (.bool r2_1)]) [] 0 Fr.emp:=by
 unfold g71 at h
 refine SCall.mkK Tryd.func71 c71 rfl rfl (by kernel_rfl) (fun Q_0 hR_0 hN_0=>?_)
 refine Sa (sT [(1,jI horse),(2,jI mane),(3,jI tail),pR 4 0,pR 8 1,pR 9 2] [(2,.var 124 [jI 0,jI 0]),(1,.var 124 [jI 0,jI 0]),(0,.var 119 (catV (cv61 b_HairBook) [.fmp (List.map m124_33 mf)]))] 3 0) ?_
 refine Sa (sT [(1,jI horse),(2,jI mane),(3,jI tail),pR 4 0,pR 8 1,pR 9 2,(11,.clo 114 [.agg [.d (.sl 4 (List.map e65 b_HairBook.Hanks)),.d (.sl 3 (List.map e67 b_HairBook.Horses)),jI b_HairBook.Dark,jI b_HairBook.Near,jI b_HairBook.Match,.fmp (List.map m124_33 mf)]] [])] [(2,.var 124 [jI 0,jI 0]),(1,.var 124 [jI 0,jI 0]),(0,.var 119 (catV (cv61 b_HairBook) [.fmp (List.map m124_33 mf)]))] 3 0) ?_
 refine AW.seqK (fun K_1 hK_1=>?_)
 refine Sa (sT [(1,jI horse),(2,jI mane),(3,jI tail),pR 4 0,pR 8 1,pR 9 2,(11,.clo 114 [.agg [.d (.sl 4 (List.map e65 b_HairBook.Hanks)),.d (.sl 3 (List.map e67 b_HairBook.Horses)),jI b_HairBook.Dark,jI b_HairBook.Near,jI b_HairBook.Match,.fmp (List.map m124_33 mf)]] []),(19,jI (wr (b_HairBook.Dark+1))),(20,jI 0)] [(2,.var 124 [jI 0,jI 0]),(1,.var 124 [jI 0,jI 0]),(0,.var 119 (catV (cv61 b_HairBook) [.fmp (List.map m124_33 mf)]))] 3 0) ?_
 refine AW.block ?_
 have hN_2:(wr (b_HairBook.Dark+1))≤9223372036854775807:=(wr_range _).2
 obtain ⟨out_2,hx_2,hk_2⟩:=bsomeC h
 refine AW.lpCK (fun (v:Int) (_:Unit)=>(sT [(1,jI horse),(2,jI mane),(3,jI tail),pR 4 0,pR 8 1,pR 9 2,(11,.clo 114 [.agg [.d (.sl 4 (List.map e65 b_HairBook.Hanks)),.d (.sl 3 (List.map e67 b_HairBook.Horses)),jI b_HairBook.Dark,jI b_HairBook.Near,jI b_HairBook.Match,.fmp (List.map m124_33 mf)]] []),(19,jI (wr (b_HairBook.Dark+1))),(20,jI v)] [(2,.var 124 [jI 0,jI 0]),(1,.var 124 [jI 0,jI 0]),(0,.var 119 (catV (cv61 b_HairBook) [.fmp (List.map m124_33 mf)]))] 3 0)) (g71_2 b_HairBook mf horse mane tail) ((wr (b_HairBook.Dark+1))) hx_2 (Can.kp (by kernel_rfl)) (fun v s_2 hi_2 hl_2 c_2 h hb_2 K_2 hK_2=>?_) (fun v s_2 hi_2 hl_2 hout=>?_)
 ·unfold g71_2 at h
  refine Sa (sT [(1,jI horse),(2,jI mane),(3,jI tail),pR 4 0,pR 8 1,pR 9 2,(11,.clo 114 [.agg [.d (.sl 4 (List.map e65 b_HairBook.Hanks)),.d (.sl 3 (List.map e67 b_HairBook.Horses)),jI b_HairBook.Dark,jI b_HairBook.Near,jI b_HairBook.Match,.fmp (List.map m124_33 mf)]] []),(19,jI (wr (b_HairBook.Dark+1))),(20,jI v),(21,.d (.bool (decide (v<(wr (b_HairBook.Dark+1))))))] [(2,.var 124 [jI 0,jI 0]),(1,.var 124 [jI 0,jI 0]),(0,.var 119 (catV (cv61 b_HairBook) [.fmp (List.map m124_33 mf)]))] 3 0) ?_
  refine AW.seqK (fun K_3 hK_3=>?_)
  refine AW.cond rfl (fun hb_4=>?_) (fun hb_4=>False.elim (by have:=of_decide_eq_false hb_4;omega))
  refine AW.skip (hK_3 _ ?_)
  refine AW.seqK (fun K_5 hK_5=>?_)
  refine AW.block ?_
  refine Sa (sT [(1,jI horse),(2,jI mane),(3,jI tail),pR 4 0,pR 8 1,pR 9 2,(11,.clo 114 [.agg [.d (.sl 4 (List.map e65 b_HairBook.Hanks)),.d (.sl 3 (List.map e67 b_HairBook.Horses)),jI b_HairBook.Dark,jI b_HairBook.Near,jI b_HairBook.Match,.fmp (List.map m124_33 mf)]] []),(12,jI v),(19,jI (wr (b_HairBook.Dark+1))),(20,jI v)] [(2,.var 124 [jI 0,jI 0]),(1,.var 124 [jI 0,jI 0]),(0,.var 119 (catV (cv61 b_HairBook) [.fmp (List.map m124_33 mf)]))] 3 0) ?_
  refine Sa (sT [(1,jI horse),(2,jI mane),(3,jI tail),pR 4 0,pR 8 1,pR 9 2,(11,.clo 114 [.agg [.d (.sl 4 (List.map e65 b_HairBook.Hanks)),.d (.sl 3 (List.map e67 b_HairBook.Horses)),jI b_HairBook.Dark,jI b_HairBook.Near,jI b_HairBook.Match,.fmp (List.map m124_33 mf)]] []),(12,jI v),(19,jI (wr (b_HairBook.Dark+1))),(20,jI v),(26,jI (wr (b_HairBook.Dark+1))),(27,jI 0)] [(2,.var 124 [jI 0,jI 0]),(1,.var 124 [jI 0,jI 0]),(0,.var 119 (catV (cv61 b_HairBook) [.fmp (List.map m124_33 mf)]))] 3 0) ?_
  refine AW.block ?_
  have hN_6:(wr (b_HairBook.Dark+1))≤9223372036854775807:=(wr_range _).2
  obtain ⟨out_6,hx_6,hk_6⟩:=bsomeC h
  refine AW.lpCK (fun (v1:Int) (_:Unit)=>(sT [(1,jI horse),(2,jI mane),(3,jI tail),pR 4 0,pR 8 1,pR 9 2,(11,.clo 114 [.agg [.d (.sl 4 (List.map e65 b_HairBook.Hanks)),.d (.sl 3 (List.map e67 b_HairBook.Horses)),jI b_HairBook.Dark,jI b_HairBook.Near,jI b_HairBook.Match,.fmp (List.map m124_33 mf)]] []),(12,jI v),(19,jI (wr (b_HairBook.Dark+1))),(20,jI v),(26,jI (wr (b_HairBook.Dark+1))),(27,jI v1)] [(2,.var 124 [jI 0,jI 0]),(1,.var 124 [jI 0,jI 0]),(0,.var 119 (catV (cv61 b_HairBook) [.fmp (List.map m124_33 mf)]))] 3 0)) (g71_6 b_HairBook mf horse mane tail v) ((wr (b_HairBook.Dark+1))) hx_6 (Can.kp (by kernel_rfl)) (fun v1 s_6 hi_6 hl_6 c_6 h hb_6 K_6 hK_6=>?_) (fun v1 s_6 hi_6 hl_6 hout=>?_)
  ·unfold g71_6 at h
   refine Sa (sT [(1,jI horse),(2,jI mane),(3,jI tail),pR 4 0,pR 8 1,pR 9 2,(11,.clo 114 [.agg [.d (.sl 4 (List.map e65 b_HairBook.Hanks)),.d (.sl 3 (List.map e67 b_HairBook.Horses)),jI b_HairBook.Dark,jI b_HairBook.Near,jI b_HairBook.Match,.fmp (List.map m124_33 mf)]] []),(12,jI v),(19,jI (wr (b_HairBook.Dark+1))),(20,jI v),(26,jI (wr (b_HairBook.Dark+1))),(27,jI v1),(28,.d (.bool (decide (v1<(wr (b_HairBook.Dark+1))))))] [(2,.var 124 [jI 0,jI 0]),(1,.var 124 [jI 0,jI 0]),(0,.var 119 (catV (cv61 b_HairBook) [.fmp (List.map m124_33 mf)]))] 3 0) ?_
   refine AW.seqK (fun K_7 hK_7=>?_)
   refine AW.cond rfl (fun hb_8=>?_) (fun hb_8=>False.elim (by have:=of_decide_eq_false hb_8;omega))
   refine AW.skip (hK_7 _ ?_)
   refine AW.seqK (fun K_9 hK_9=>?_)
   refine AW.block ?_
   refine Sa (sT [(1,jI horse),(2,jI mane),(3,jI tail),pR 4 0,pR 8 1,pR 9 2,(11,.clo 114 [.agg [.d (.sl 4 (List.map e65 b_HairBook.Hanks)),.d (.sl 3 (List.map e67 b_HairBook.Horses)),jI b_HairBook.Dark,jI b_HairBook.Near,jI b_HairBook.Match,.fmp (List.map m124_33 mf)]] []),(12,jI v),(13,jI v1),(19,jI (wr (b_HairBook.Dark+1))),(20,jI v),(26,jI (wr (b_HairBook.Dark+1))),(27,jI v1)] [(2,.var 124 [jI 0,jI 0]),(1,.var 124 [jI 0,jI 0]),(0,.var 119 (catV (cv61 b_HairBook) [.fmp (List.map m124_33 mf)]))] 3 0) ?_
   refine AW.srwK (fun Q_10 hQ_10=>?_)
   refine Au 8 (sT [(1,jI horse),(2,jI mane),(3,jI tail),pR 4 0,pR 8 1,pR 9 2,(11,.clo 114 [.agg [.d (.sl 4 (List.map e65 b_HairBook.Hanks)),.d (.sl 3 (List.map e67 b_HairBook.Horses)),jI b_HairBook.Dark,jI b_HairBook.Near,jI b_HairBook.Match,.fmp (List.map m124_33 mf)]] []),(12,jI v),(13,jI v1),(19,jI (wr (b_HairBook.Dark+1))),(20,jI v),(26,jI (wr (b_HairBook.Dark+1))),(27,jI v1),(30,.clo 114 [.agg [.d (.sl 4 (List.map e65 b_HairBook.Hanks)),.d (.sl 3 (List.map e67 b_HairBook.Horses)),jI b_HairBook.Dark,jI b_HairBook.Near,jI b_HairBook.Match,.fmp (List.map m124_33 mf)]] []),(31,jI horse),(34,.agg [jI mane,jI v]),(37,.agg [jI tail,jI v1])] [(2,.var 124 [jI 0,jI 0]),(1,.var 124 [jI 0,jI 0]),(0,.var 119 (catV (cv61 b_HairBook) [.fmp (List.map m124_33 mf)]))] 3 0) ?_
   obtain ⟨r0_5,hx_11,h⟩:=bsome h
   refine RW.one fokW (r_callvZ (zr:=[]) trivial rfl (.clo _ _ _) (by kernel_rfl) rfl (k114 b_HairBook mf horse (Hair_dye.mk mane v) (Hair_dye.mk tail v1) _ hx_11) trivial ⟨.refl _,.refl _,.refl _,.refl _,trivial⟩ rfl rfl rfl rfl (r_end ?_))
   refine RW.nil (hQ_10 _ ?_)
   refine AW.cond rfl (fun hb_12=>?_) (fun hb_12=>?_)
   ·have h:=ifT hb_12 h
    refine Sa (sT [pR 8 1,pR 9 2,(10,.d (.bool true))] [(2,.var 124 [jI tail,jI v1]),(1,.var 124 [jI mane,jI v])] 3 0) ?_
    obtain rfl:=Option.some.inj h
    have e_2:=hb_6 _ rfl
    subst e_2
    obtain rfl:=Aft.bk hk_6
    have e_1:=hb_2 _ rfl
    subst e_1
    obtain rfl:=Aft.bk hk_2
    exact rT hR_0 (.cons (.agg rfl rfl (Nat.le_of_ble_eq_true rfl)) (.cons (.agg rfl rfl (Nat.le_of_ble_eq_true rfl)) (.cons (.tmp rfl) .nil)))
   ·have h:=ifF hb_12 h
    refine AW.skip (hK_9 _ ?_)
    refine Ra (sT [(1,jI horse),(2,jI mane),(3,jI tail),pR 4 0,pR 8 1,pR 9 2,(11,.clo 114 [.agg [.d (.sl 4 (List.map e65 b_HairBook.Hanks)),.d (.sl 3 (List.map e67 b_HairBook.Horses)),jI b_HairBook.Dark,jI b_HairBook.Near,jI b_HairBook.Match,.fmp (List.map m124_33 mf)]] []),(12,jI v),(19,jI (wr (b_HairBook.Dark+1))),(20,jI v),(26,jI (wr (b_HairBook.Dark+1))),(27,jI (wr (v1+1)))] [(2,.var 124 [jI 0,jI 0]),(1,.var 124 [jI 0,jI 0]),(0,.var 119 (catV (cv61 b_HairBook) [.fmp (List.map m124_33 mf)]))] 3 0) ?_
    obtain rfl:=Option.some.inj h
    have ew:wr (v1+1)=v1+1:=inext (N:=(wr (b_HairBook.Dark+1))) (by omega) (by omega) (by omega)
    rw [ew]
    exact hK_6 _ _ rfl (Can.kp (by kernel_rfl))
  ·subst hout
   have h:=Aft.nx hk_6
   refine Sa (sT [(1,jI horse),(2,jI mane),(3,jI tail),pR 4 0,pR 8 1,pR 9 2,(11,.clo 114 [.agg [.d (.sl 4 (List.map e65 b_HairBook.Hanks)),.d (.sl 3 (List.map e67 b_HairBook.Horses)),jI b_HairBook.Dark,jI b_HairBook.Near,jI b_HairBook.Match,.fmp (List.map m124_33 mf)]] []),(12,jI v),(19,jI (wr (b_HairBook.Dark+1))),(20,jI v),(26,jI (wr (b_HairBook.Dark+1))),(27,jI v1),(28,.d (.bool (decide (v1<(wr (b_HairBook.Dark+1))))))] [(2,.var 124 [jI 0,jI 0]),(1,.var 124 [jI 0,jI 0]),(0,.var 119 (catV (cv61 b_HairBook) [.fmp (List.map m124_33 mf)]))] 3 0) ?_
   refine AW.seqK (fun K_13 hK_13=>?_)
   refine AW.cond rfl (fun hb_14=>False.elim (by have:=of_decide_eq_true hb_14;omega)) (fun hb_14=>?_)
   refine AW.exit ?_
   refine hK_5 _ ?_
   refine Ra (sT [(1,jI horse),(2,jI mane),(3,jI tail),pR 4 0,pR 8 1,pR 9 2,(11,.clo 114 [.agg [.d (.sl 4 (List.map e65 b_HairBook.Hanks)),.d (.sl 3 (List.map e67 b_HairBook.Horses)),jI b_HairBook.Dark,jI b_HairBook.Near,jI b_HairBook.Match,.fmp (List.map m124_33 mf)]] []),(19,jI (wr (b_HairBook.Dark+1))),(20,jI (wr (v+1)))] [(2,.var 124 [jI 0,jI 0]),(1,.var 124 [jI 0,jI 0]),(0,.var 119 (catV (cv61 b_HairBook) [.fmp (List.map m124_33 mf)]))] 3 0) ?_
   obtain rfl:=Option.some.inj h
   have ew:wr (v+1)=v+1:=inext (N:=(wr (b_HairBook.Dark+1))) (by omega) (by omega) (by omega)
   rw [ew]
   exact hK_2 _ _ rfl (Can.kp (by kernel_rfl))
 ·subst hout
  have h:=Aft.nx hk_2
  refine Sa (sT [(1,jI horse),(2,jI mane),(3,jI tail),pR 4 0,pR 8 1,pR 9 2,(11,.clo 114 [.agg [.d (.sl 4 (List.map e65 b_HairBook.Hanks)),.d (.sl 3 (List.map e67 b_HairBook.Horses)),jI b_HairBook.Dark,jI b_HairBook.Near,jI b_HairBook.Match,.fmp (List.map m124_33 mf)]] []),(19,jI (wr (b_HairBook.Dark+1))),(20,jI v),(21,.d (.bool (decide (v<(wr (b_HairBook.Dark+1))))))] [(2,.var 124 [jI 0,jI 0]),(1,.var 124 [jI 0,jI 0]),(0,.var 119 (catV (cv61 b_HairBook) [.fmp (List.map m124_33 mf)]))] 3 0) ?_
  refine AW.seqK (fun K_15 hK_15=>?_)
  refine AW.cond rfl (fun hb_16=>False.elim (by have:=of_decide_eq_true hb_16;omega)) (fun hb_16=>?_)
  refine AW.exit ?_
  refine hK_1 _ ?_
  refine Sa (sT [pR 8 1,pR 9 2,(10,.d (.bool false))] [(2,.var 124 [jI 0,jI 0]),(1,.var 124 [jI 0,jI 0])] 3 0) ?_
  obtain rfl:=Option.some.inj h
  exact rT hR_0 (.cons (.agg rfl rfl (Nat.le_of_ble_eq_true rfl)) (.cons (.agg rfl rfl (Nat.le_of_ble_eq_true rfl)) (.cons (.tmp rfl) .nil)))
def g87 (b_HairBook:HairBook) (mf:List (Hair_dye×Span)) (horse:Int) (mane:Int) (tail:Int):Option Bool:=(g71 b_HairBook mf horse mane tail).bind fun (r0_1,r1_1,r2_1)=>some r2_1
theorem k87 (b_HairBook:HairBook) (mf:List (Hair_dye×Span)) (horse:Int) (mane:Int) (tail:Int) (r:Bool) (h:g87 b_HairBook mf horse mane tail=some r):SCall Tryd.prog Gs 87 [.agg [.d (.sl 4 (List.map e65 b_HairBook.Hanks)),.d (.sl 3 (List.map e67 b_HairBook.Horses)),jI b_HairBook.Dark,jI b_HairBook.Near,jI b_HairBook.Match,.fmp (List.map m124_33 mf)],jI horse,jI mane,jI tail] [] 0 Fr.emp (.d (.bool r)) [] 0 Fr.emp:=by
 unfold g87 at h
 refine SCall.mkK Tryd.func87 c87 rfl rfl (by kernel_rfl) (fun Q_0 hR_0 hN_0=>?_)
 refine Sa (sT [(1,jI horse),(2,jI mane),(3,jI tail),pR 4 0] [(0,.var 119 (catV (cv61 b_HairBook) [.fmp (List.map m124_33 mf)]))] 1 0) ?_
 refine AW.srwK (fun Q_1 hQ_1=>?_)
 refine Au 4 (sT [(13,.agg [.d (.sl 4 (List.map e65 b_HairBook.Hanks)),.d (.sl 3 (List.map e67 b_HairBook.Horses)),jI b_HairBook.Dark,jI b_HairBook.Near,jI b_HairBook.Match,.fmp (List.map m124_33 mf)]),(14,jI horse),(15,jI mane),(16,jI tail)] [] 1 0) ?_
 obtain ⟨⟨r0_1,r1_1,r2_1⟩,hx_2,h⟩:=bsome h
 refine rC (k71 b_HairBook mf horse mane tail _ hx_2) ?_
 refine Au 9 (sT [(11,.d (.bool r2_1))] [] 3 0) ?_
 refine RW.nil (hQ_1 _ ?_)
 refine Sa (sT [(8,.d (.bool r2_1))] [] 3 0) ?_
 obtain rfl:=Option.some.inj h
 exact rT hR_0 (.cons (.tmp rfl) .nil)
end Go.Proofs.Tm
namespace Go.Proofs.Tm
open Go Go.Abs Go.Proofs
def g122_16 {S_:Type} (rec_:(List Int)→(Nat→Int)→HairBook→(List (Hair_dye×Span))→HairBook→(List (Hair_dye×Span))→S_→Option (Bool×S_)) (plan:(List Int)) (cut:(Nat→Int)) (o0_HairBook:HairBook) (mf:List (Hair_dye×Span)) (m0_HairBook:HairBook) (mf_1:List (Hair_dye×Span)) (need:Int):Int→HairHank→S_→Option (Ctl (S_) (Bool×S_)):=fun v p2 s_2=>bindC ((ixN 5 v).bind fun j1=>(g118 p2.Weight).bind fun r0_2=>bif (decide (r0_2<(wr ((cut j1)+need)))) then (some (.brk (.next s_2))) else (bif (decide (((plan.length:Int).tmod 2)=1)) then ((ixL plan (wr ((plan.length:Int) - 1))).bind fun p3=>(g87 m0_HairBook mf_1 (wr ((plan.length:Int).tdiv 2)) p3 v).bind fun r0_3=>bif (!r0_3) then (some (.brk (.next s_2))) else (some (.next ()))) else (some (.next ()))):Option (Ctl (Unit) (Ctl (S_) (Bool×S_)))) fun _=>(ixN 5 v).bind fun j2=>(ixN 5 v).bind fun j3=>(slcL plan 0 (plan.length:Int)).bind fun l=>(appL 8 l [v]).bind fun l1=>(rec_ l1 (aset cut j3 (wr ((cut j2)+need))) o0_HairBook mf m0_HairBook mf_1 s_2).bind fun (r0_7_1,s_5_1)=>bif (!r0_7_1) then (some (.brk (false,s_5_1))) else (some (.next s_5_1))
def g122 {S_:Type} (c_:(List Int)→(Nat→Int)→S_→Option (S_×Bool)):Nat→(List Int)→(Nat→Int)→HairBook→(List (Hair_dye×Span))→HairBook→(List (Hair_dye×Span))→S_→Option (Bool×S_)
 | 0,_,_,_,_,_,_,_=>none
 | n_+1,plan,cut,o0_HairBook,mf,m0_HairBook,mf_1,s_=>bif (decide ((plan.length:Int)=(wr (2*(o0_HairBook.Horses.length:Int))))) then ((c_ plan cut s_).bind fun (s_1,go)=>some (go,s_1)) else (((ixN 2 ((plan.length:Int).tmod 2)).bind fun j=>match j with | 0=>(ixL o0_HairBook.Horses (wr ((plan.length:Int).tdiv 2))).bind fun p=>(g154 p).bind fun r0=>some r0 | 1=>(ixL o0_HairBook.Horses (wr ((plan.length:Int).tdiv 2))).bind fun p1=>(g161 p1).bind fun r0_1=>some r0_1 | _=>none).bind fun need=>bindC (eachC (g122_16 (g122 c_ n_) plan cut o0_HairBook mf m0_HairBook mf_1 need) o0_HairBook.Hanks 0 s_) fun s_2=>some (true,s_2))
theorem k122 {S_:Type} (fr_:S_→Fr) (c_:(List Int)→(Nat→Int)→S_→Option (S_×Bool)) (hc_:∀ (a0:(List Int)) (a1:(Nat→Int)) s s2 b,c_ a0 a1 s=some (s2,b)→YCall Tryd.prog Gs (fr_ s) [.d (.sl 1 (List.map e3 a0)),.agg [jI (a1 0),jI (a1 1),jI (a1 2),jI (a1 3),jI (a1 4)]] (.d (.bool b)) (fr_ s2)):∀ (n_:Nat) (plan:(List Int)) (cut:(Nat→Int)) (o0_HairBook:HairBook) (mf:List (Hair_dye×Span)) (m0_HairBook:HairBook) (mf_1:List (Hair_dye×Span)) (s_:S_) (r:Bool×S_) (h:g122 c_ n_ plan cut o0_HairBook mf m0_HairBook mf_1 s_=some r),SCall Tryd.prog Gs 122 [.d (.sl 1 (List.map e3 plan)),.agg [jI (cut 0),jI (cut 1),jI (cut 2),jI (cut 3),jI (cut 4)],.ptr 0 0,.ptr 1 0,.ptr 2 0,.ptr 3 0,.ptr 4 0] [(0,.var 119 (catV (cv61 o0_HairBook) [.fmp (List.map m124_33 mf)])),(1,.var 187 [.yld]),(2,.var 133 [.d (.fn 118)]),(3,.var 108 [.clo 87 [.agg [.d (.sl 4 (List.map e65 m0_HairBook.Hanks)),.d (.sl 3 (List.map e67 m0_HairBook.Horses)),jI m0_HairBook.Dark,jI m0_HairBook.Near,jI m0_HairBook.Match,.fmp (List.map m124_33 mf_1)]] []]),(4,.var 187 [.clo 122 [] [.ptr 0 0,.ptr 1 0,.ptr 2 0,.ptr 3 0,.ptr 4 0]])] 5 (fr_ s_) (match r with | (r0_7,s_5)=>.d (.bool r0_7)) (match r with | (r0_7,s_5)=>[(0,.var 119 (catV (cv61 o0_HairBook) [.fmp (List.map m124_33 mf)])),(1,.var 187 [.yld]),(2,.var 133 [.d (.fn 118)]),(3,.var 108 [.clo 87 [.agg [.d (.sl 4 (List.map e65 m0_HairBook.Hanks)),.d (.sl 3 (List.map e67 m0_HairBook.Horses)),jI m0_HairBook.Dark,jI m0_HairBook.Near,jI m0_HairBook.Match,.fmp (List.map m124_33 mf_1)]] []]),(4,.var 187 [.clo 122 [] [.ptr 0 0,.ptr 1 0,.ptr 2 0,.ptr 3 0,.ptr 4 0]])]) 5 (fr_ (match r with | (r0_7,s_5)=>s_5)):=by
 intro n_
 induction n_ with
 | zero=>intro plan cut o0_HairBook mf m0_HairBook mf_1 s_ r h;cases h
 | succ n_ ih=>
  intro plan cut o0_HairBook mf m0_HairBook mf_1 s_ r h
  rw [g122] at h
  refine SCall.mkK Tryd.func122 c122 rfl rfl (by kernel_rfl) (fun Q_0 hR_0 hN_0=>?_)
  refine Sa ⟨[(0,.d (.sl 1 (List.map e3 plan))),pR 2 0,pR 3 1,pR 4 2,pR 5 3,pR 6 4,pR 8 5],[(5,.var 128 [jI (cut 0),jI (cut 1),jI (cut 2),jI (cut 3),jI (cut 4)]),(0,.var 119 (catV (cv61 o0_HairBook) [.fmp (List.map m124_33 mf)])),(1,.var 187 [.yld]),(2,.var 133 [.d (.fn 118)]),(3,.var 108 [.clo 87 [.agg [.d (.sl 4 (List.map e65 m0_HairBook.Hanks)),.d (.sl 3 (List.map e67 m0_HairBook.Horses)),jI m0_HairBook.Dark,jI m0_HairBook.Near,jI m0_HairBook.Match,.fmp (List.map m124_33 mf_1)]] []]),(4,.var 187 [.clo 122 [] [.ptr 0 0,.ptr 1 0,.ptr 2 0,.ptr 3 0,.ptr 4 0]])],6,(fr_ s_),[],5⟩ ?_
  refine AW.scope ?_
  refine AW.srwK (fun Q_1 hQ_1=>?_)
  refine Au 1 ⟨[(0,.d (.sl 1 (List.map e3 plan))),pR 2 0,pR 3 1,pR 4 2,pR 5 3,pR 6 4,pR 8 5,(15,.d (.sl 1 (List.map e3 plan)))],[(5,.var 128 [jI (cut 0),jI (cut 1),jI (cut 2),jI (cut 3),jI (cut 4)]),(0,.var 119 (catV (cv61 o0_HairBook) [.fmp (List.map m124_33 mf)])),(1,.var 187 [.yld]),(2,.var 133 [.d (.fn 118)]),(3,.var 108 [.clo 87 [.agg [.d (.sl 4 (List.map e65 m0_HairBook.Hanks)),.d (.sl 3 (List.map e67 m0_HairBook.Horses)),jI m0_HairBook.Dark,jI m0_HairBook.Near,jI m0_HairBook.Match,.fmp (List.map m124_33 mf_1)]] []]),(4,.var 187 [.clo 122 [] [.ptr 0 0,.ptr 1 0,.ptr 2 0,.ptr 3 0,.ptr 4 0]])],6,(fr_ s_),[],5⟩ ?_
  refine rL rfl ?_
  refine Au 1 ⟨[(0,.d (.sl 1 (List.map e3 plan))),pR 2 0,pR 3 1,pR 4 2,pR 5 3,pR 6 4,pR 8 5,(10,jI (plan.length:Int))],[(5,.var 128 [jI (cut 0),jI (cut 1),jI (cut 2),jI (cut 3),jI (cut 4)]),(0,.var 119 (catV (cv61 o0_HairBook) [.fmp (List.map m124_33 mf)])),(1,.var 187 [.yld]),(2,.var 133 [.d (.fn 118)]),(3,.var 108 [.clo 87 [.agg [.d (.sl 4 (List.map e65 m0_HairBook.Hanks)),.d (.sl 3 (List.map e67 m0_HairBook.Horses)),jI m0_HairBook.Dark,jI m0_HairBook.Near,jI m0_HairBook.Match,.fmp (List.map m124_33 mf_1)]] []]),(4,.var 187 [.clo 122 [] [.ptr 0 0,.ptr 1 0,.ptr 2 0,.ptr 3 0,.ptr 4 0]])],6,(fr_ s_),[],5⟩ ?_
  refine RW.nil (hQ_1 _ ?_)
  refine AW.seqK fun K_2 hK_2=>AW.srwK fun Q_3 hQ_3=>?_
  refine Au 4 ⟨[(0,.d (.sl 1 (List.map e3 plan))),pR 2 0,pR 3 1,pR 4 2,pR 5 3,pR 6 4,pR 8 5,(10,jI (plan.length:Int)),(17,jI (plan.length:Int)),(20,.d (.sl 3 (List.map e67 o0_HairBook.Horses)))],[(5,.var 128 [jI (cut 0),jI (cut 1),jI (cut 2),jI (cut 3),jI (cut 4)]),(0,.var 119 (catV (cv61 o0_HairBook) [.fmp (List.map m124_33 mf)])),(1,.var 187 [.yld]),(2,.var 133 [.d (.fn 118)]),(3,.var 108 [.clo 87 [.agg [.d (.sl 4 (List.map e65 m0_HairBook.Hanks)),.d (.sl 3 (List.map e67 m0_HairBook.Horses)),jI m0_HairBook.Dark,jI m0_HairBook.Near,jI m0_HairBook.Match,.fmp (List.map m124_33 mf_1)]] []]),(4,.var 187 [.clo 122 [] [.ptr 0 0,.ptr 1 0,.ptr 2 0,.ptr 3 0,.ptr 4 0]])],6,(fr_ s_),[],5⟩ ?_
  refine rL rfl ?_
  refine Au 2 ⟨[(0,.d (.sl 1 (List.map e3 plan))),pR 2 0,pR 3 1,pR 4 2,pR 5 3,pR 6 4,pR 8 5,(10,jI (plan.length:Int)),(23,.d (.bool (decide ((plan.length:Int)=(wr (2*(o0_HairBook.Horses.length:Int)))))))],[(5,.var 128 [jI (cut 0),jI (cut 1),jI (cut 2),jI (cut 3),jI (cut 4)]),(0,.var 119 (catV (cv61 o0_HairBook) [.fmp (List.map m124_33 mf)])),(1,.var 187 [.yld]),(2,.var 133 [.d (.fn 118)]),(3,.var 108 [.clo 87 [.agg [.d (.sl 4 (List.map e65 m0_HairBook.Hanks)),.d (.sl 3 (List.map e67 m0_HairBook.Horses)),jI m0_HairBook.Dark,jI m0_HairBook.Near,jI m0_HairBook.Match,.fmp (List.map m124_33 mf_1)]] []]),(4,.var 187 [.clo 122 [] [.ptr 0 0,.ptr 1 0,.ptr 2 0,.ptr 3 0,.ptr 4 0]])],6,(fr_ s_),[],5⟩ ?_
  refine RW.nil (hQ_3 _ ?_)
  refine AW.cond rfl (fun hb_4=>?_) (fun hb_4=>?_)
  ·have h:=ifT hb_4 h
   refine AW.srwK (fun Q_5 hQ_5=>?_)
   refine Au 3 ⟨[(24,.yld),(25,.d (.sl 1 (List.map e3 plan))),(26,.agg [jI (cut 0),jI (cut 1),jI (cut 2),jI (cut 3),jI (cut 4)])],[(0,.var 119 (catV (cv61 o0_HairBook) [.fmp (List.map m124_33 mf)])),(1,.var 187 [.yld]),(2,.var 133 [.d (.fn 118)]),(3,.var 108 [.clo 87 [.agg [.d (.sl 4 (List.map e65 m0_HairBook.Hanks)),.d (.sl 3 (List.map e67 m0_HairBook.Horses)),jI m0_HairBook.Dark,jI m0_HairBook.Near,jI m0_HairBook.Match,.fmp (List.map m124_33 mf_1)]] []]),(4,.var 187 [.clo 122 [] [.ptr 0 0,.ptr 1 0,.ptr 2 0,.ptr 3 0,.ptr 4 0]])],6,(fr_ s_),[],5⟩ ?_
   obtain ⟨⟨s_1,go⟩,hx_6,h⟩:=bsome h
   refine RW.one fokW (r_yield (zr:=[]) trivial rfl rfl (hc_ plan cut _ _ _ hx_6) trivial ⟨.refl _,.refl _,trivial⟩ rfl rfl rfl rfl (r_end ?_))
   refine Au 1 ⟨[(9,.d (.bool go))],[(0,.var 119 (catV (cv61 o0_HairBook) [.fmp (List.map m124_33 mf)])),(1,.var 187 [.yld]),(2,.var 133 [.d (.fn 118)]),(3,.var 108 [.clo 87 [.agg [.d (.sl 4 (List.map e65 m0_HairBook.Hanks)),.d (.sl 3 (List.map e67 m0_HairBook.Horses)),jI m0_HairBook.Dark,jI m0_HairBook.Near,jI m0_HairBook.Match,.fmp (List.map m124_33 mf_1)]] []]),(4,.var 187 [.clo 122 [] [.ptr 0 0,.ptr 1 0,.ptr 2 0,.ptr 3 0,.ptr 4 0]])],6,(fr_ s_1),[],5⟩ ?_
   refine RW.nil (hQ_5 _ ?_)
   obtain rfl:=Option.some.inj h
   exact rT hR_0 (.cons (.tmp rfl) .nil)
  ·have h:=ifF hb_4 h
   refine AW.skip (hK_2 _ ?_)
   obtain ⟨need,hx_7,h⟩:=bsome h
   refine AW.jnSK (fun (need:Int)=>⟨[(0,.d (.sl 1 (List.map e3 plan))),pR 2 0,pR 4 2,pR 5 3,pR 6 4,pR 8 5,(10,jI (plan.length:Int)),(11,jI need)],[(5,.var 128 [jI (cut 0),jI (cut 1),jI (cut 2),jI (cut 3),jI (cut 4)]),(0,.var 119 (catV (cv61 o0_HairBook) [.fmp (List.map m124_33 mf)])),(1,.var 187 [.yld]),(2,.var 133 [.d (.fn 118)]),(3,.var 108 [.clo 87 [.agg [.d (.sl 4 (List.map e65 m0_HairBook.Hanks)),.d (.sl 3 (List.map e67 m0_HairBook.Horses)),jI m0_HairBook.Dark,jI m0_HairBook.Near,jI m0_HairBook.Match,.fmp (List.map m124_33 mf_1)]] []]),(4,.var 187 [.clo 122 [] [.ptr 0 0,.ptr 1 0,.ptr 2 0,.ptr 3 0,.ptr 4 0]])],6,(fr_ s_),[],5⟩) (c:=need) (fun K_7 hK_7=>?_) ?_
   ·have h:=hx_7
    refine AW.drw fokW ?_
    refine aX 2 ⟨[(0,.d (.sl 1 (List.map e3 plan))),pR 2 0,pR 4 2,pR 5 3,pR 6 4,pR 8 5,(10,jI (plan.length:Int)),(29,jI ((plan.length:Int).tmod 2))],[(5,.var 128 [jI (cut 0),jI (cut 1),jI (cut 2),jI (cut 3),jI (cut 4)]),(0,.var 119 (catV (cv61 o0_HairBook) [.fmp (List.map m124_33 mf)])),(1,.var 187 [.yld]),(2,.var 133 [.d (.fn 118)]),(3,.var 108 [.clo 87 [.agg [.d (.sl 4 (List.map e65 m0_HairBook.Hanks)),.d (.sl 3 (List.map e67 m0_HairBook.Horses)),jI m0_HairBook.Dark,jI m0_HairBook.Near,jI m0_HairBook.Match,.fmp (List.map m124_33 mf_1)]] []]),(4,.var 187 [.clo 122 [] [.ptr 0 0,.ptr 1 0,.ptr 2 0,.ptr 3 0,.ptr 4 0]])],6,(fr_ s_),[],5⟩ ?_
    obtain ⟨j,hv_9,h⟩:=bsome h
    rcases j with _ | _ | j
    ·refine r_iaF trivial rfl rfl (ixN_ok hv_9).1 (ixN_ok hv_9).2.1 ?_
     refine r_loadF trivial rfl (u:=.fn 154) (by rw [(ixN_ok hv_9).2.2];rfl) ?_
     refine aX 5 ⟨[(0,.d (.sl 1 (List.map e3 plan))),pR 2 0,pR 4 2,pR 5 3,pR 6 4,pR 8 5,(10,jI (plan.length:Int)),(31,.d (.fn 154)),(34,.d (.sl 3 (List.map e67 o0_HairBook.Horses))),(36,jI (wr ((plan.length:Int).tdiv 2)))],[(5,.var 128 [jI (cut 0),jI (cut 1),jI (cut 2),jI (cut 3),jI (cut 4)]),(0,.var 119 (catV (cv61 o0_HairBook) [.fmp (List.map m124_33 mf)])),(1,.var 187 [.yld]),(2,.var 133 [.d (.fn 118)]),(3,.var 108 [.clo 87 [.agg [.d (.sl 4 (List.map e65 m0_HairBook.Hanks)),.d (.sl 3 (List.map e67 m0_HairBook.Horses)),jI m0_HairBook.Dark,jI m0_HairBook.Near,jI m0_HairBook.Match,.fmp (List.map m124_33 mf_1)]] []]),(4,.var 187 [.clo 122 [] [.ptr 0 0,.ptr 1 0,.ptr 2 0,.ptr 3 0,.ptr 4 0]])],6,(fr_ s_),[],5⟩ ?_
     obtain ⟨p,hv_10,h⟩:=bsome h
     refine r_iaD trivial rfl rfl (ixL_ok hv_10).1 (row:=e67 p) (mapget (ixL_ok hv_10).2) ?_
     refine aX 1 ⟨[(0,.d (.sl 1 (List.map e3 plan))),pR 2 0,pR 4 2,pR 5 3,pR 6 4,pR 8 5,(10,jI (plan.length:Int)),(31,.d (.fn 154)),(38,.agg [jI p.Mane,jI p.Tail,jI p.Shade])],[(5,.var 128 [jI (cut 0),jI (cut 1),jI (cut 2),jI (cut 3),jI (cut 4)]),(0,.var 119 (catV (cv61 o0_HairBook) [.fmp (List.map m124_33 mf)])),(1,.var 187 [.yld]),(2,.var 133 [.d (.fn 118)]),(3,.var 108 [.clo 87 [.agg [.d (.sl 4 (List.map e65 m0_HairBook.Hanks)),.d (.sl 3 (List.map e67 m0_HairBook.Horses)),jI m0_HairBook.Dark,jI m0_HairBook.Near,jI m0_HairBook.Match,.fmp (List.map m124_33 mf_1)]] []]),(4,.var 187 [.clo 122 [] [.ptr 0 0,.ptr 1 0,.ptr 2 0,.ptr 3 0,.ptr 4 0]])],6,(fr_ s_),[],5⟩ ?_
     obtain ⟨r0,hx_11,h⟩:=bsome h
     refine r_callvZ (zr:=[]) trivial rfl (.fn _) (by kernel_rfl) rfl (k154 p _ hx_11) trivial ⟨.refl _,trivial⟩ rfl rfl rfl rfl ?_
     refine aX 1 ⟨[(0,.d (.sl 1 (List.map e3 plan))),pR 2 0,pR 4 2,pR 5 3,pR 6 4,pR 8 5,(10,jI (plan.length:Int)),(11,jI r0)],[(5,.var 128 [jI (cut 0),jI (cut 1),jI (cut 2),jI (cut 3),jI (cut 4)]),(0,.var 119 (catV (cv61 o0_HairBook) [.fmp (List.map m124_33 mf)])),(1,.var 187 [.yld]),(2,.var 133 [.d (.fn 118)]),(3,.var 108 [.clo 87 [.agg [.d (.sl 4 (List.map e65 m0_HairBook.Hanks)),.d (.sl 3 (List.map e67 m0_HairBook.Horses)),jI m0_HairBook.Dark,jI m0_HairBook.Near,jI m0_HairBook.Match,.fmp (List.map m124_33 mf_1)]] []]),(4,.var 187 [.clo 122 [] [.ptr 0 0,.ptr 1 0,.ptr 2 0,.ptr 3 0,.ptr 4 0]])],6,(fr_ s_),[],5⟩ ?_
     refine Fi ⟨[(0,.d (.sl 1 (List.map e3 plan))),pR 2 0,pR 4 2,pR 5 3,pR 6 4,pR 8 5,(10,jI (plan.length:Int)),(11,jI r0)],[(5,.var 128 [jI (cut 0),jI (cut 1),jI (cut 2),jI (cut 3),jI (cut 4)]),(0,.var 119 (catV (cv61 o0_HairBook) [.fmp (List.map m124_33 mf)])),(1,.var 187 [.yld]),(2,.var 133 [.d (.fn 118)]),(3,.var 108 [.clo 87 [.agg [.d (.sl 4 (List.map e65 m0_HairBook.Hanks)),.d (.sl 3 (List.map e67 m0_HairBook.Horses)),jI m0_HairBook.Dark,jI m0_HairBook.Near,jI m0_HairBook.Match,.fmp (List.map m124_33 mf_1)]] []]),(4,.var 187 [.clo 122 [] [.ptr 0 0,.ptr 1 0,.ptr 2 0,.ptr 3 0,.ptr 4 0]])],6,(fr_ s_),[],5⟩ ?_
     obtain rfl:=Option.some.inj h
     exact hK_7 _ (Can.kp (by kernel_rfl))
    ·refine r_iaF trivial rfl rfl (ixN_ok hv_9).1 (ixN_ok hv_9).2.1 ?_
     refine r_loadF trivial rfl (u:=.fn 161) (by rw [(ixN_ok hv_9).2.2];rfl) ?_
     refine aX 5 ⟨[(0,.d (.sl 1 (List.map e3 plan))),pR 2 0,pR 4 2,pR 5 3,pR 6 4,pR 8 5,(10,jI (plan.length:Int)),(31,.d (.fn 161)),(34,.d (.sl 3 (List.map e67 o0_HairBook.Horses))),(36,jI (wr ((plan.length:Int).tdiv 2)))],[(5,.var 128 [jI (cut 0),jI (cut 1),jI (cut 2),jI (cut 3),jI (cut 4)]),(0,.var 119 (catV (cv61 o0_HairBook) [.fmp (List.map m124_33 mf)])),(1,.var 187 [.yld]),(2,.var 133 [.d (.fn 118)]),(3,.var 108 [.clo 87 [.agg [.d (.sl 4 (List.map e65 m0_HairBook.Hanks)),.d (.sl 3 (List.map e67 m0_HairBook.Horses)),jI m0_HairBook.Dark,jI m0_HairBook.Near,jI m0_HairBook.Match,.fmp (List.map m124_33 mf_1)]] []]),(4,.var 187 [.clo 122 [] [.ptr 0 0,.ptr 1 0,.ptr 2 0,.ptr 3 0,.ptr 4 0]])],6,(fr_ s_),[],5⟩ ?_
     obtain ⟨p1,hv_12,h⟩:=bsome h
     refine r_iaD trivial rfl rfl (ixL_ok hv_12).1 (row:=e67 p1) (mapget (ixL_ok hv_12).2) ?_
     refine aX 1 ⟨[(0,.d (.sl 1 (List.map e3 plan))),pR 2 0,pR 4 2,pR 5 3,pR 6 4,pR 8 5,(10,jI (plan.length:Int)),(31,.d (.fn 161)),(38,.agg [jI p1.Mane,jI p1.Tail,jI p1.Shade])],[(5,.var 128 [jI (cut 0),jI (cut 1),jI (cut 2),jI (cut 3),jI (cut 4)]),(0,.var 119 (catV (cv61 o0_HairBook) [.fmp (List.map m124_33 mf)])),(1,.var 187 [.yld]),(2,.var 133 [.d (.fn 118)]),(3,.var 108 [.clo 87 [.agg [.d (.sl 4 (List.map e65 m0_HairBook.Hanks)),.d (.sl 3 (List.map e67 m0_HairBook.Horses)),jI m0_HairBook.Dark,jI m0_HairBook.Near,jI m0_HairBook.Match,.fmp (List.map m124_33 mf_1)]] []]),(4,.var 187 [.clo 122 [] [.ptr 0 0,.ptr 1 0,.ptr 2 0,.ptr 3 0,.ptr 4 0]])],6,(fr_ s_),[],5⟩ ?_
     obtain ⟨r0_1,hx_13,h⟩:=bsome h
     refine r_callvZ (zr:=[]) trivial rfl (.fn _) (by kernel_rfl) rfl (k161 p1 _ hx_13) trivial ⟨.refl _,trivial⟩ rfl rfl rfl rfl ?_
     refine aX 1 ⟨[(0,.d (.sl 1 (List.map e3 plan))),pR 2 0,pR 4 2,pR 5 3,pR 6 4,pR 8 5,(10,jI (plan.length:Int)),(11,jI r0_1)],[(5,.var 128 [jI (cut 0),jI (cut 1),jI (cut 2),jI (cut 3),jI (cut 4)]),(0,.var 119 (catV (cv61 o0_HairBook) [.fmp (List.map m124_33 mf)])),(1,.var 187 [.yld]),(2,.var 133 [.d (.fn 118)]),(3,.var 108 [.clo 87 [.agg [.d (.sl 4 (List.map e65 m0_HairBook.Hanks)),.d (.sl 3 (List.map e67 m0_HairBook.Horses)),jI m0_HairBook.Dark,jI m0_HairBook.Near,jI m0_HairBook.Match,.fmp (List.map m124_33 mf_1)]] []]),(4,.var 187 [.clo 122 [] [.ptr 0 0,.ptr 1 0,.ptr 2 0,.ptr 3 0,.ptr 4 0]])],6,(fr_ s_),[],5⟩ ?_
     refine Fi ⟨[(0,.d (.sl 1 (List.map e3 plan))),pR 2 0,pR 4 2,pR 5 3,pR 6 4,pR 8 5,(10,jI (plan.length:Int)),(11,jI r0_1)],[(5,.var 128 [jI (cut 0),jI (cut 1),jI (cut 2),jI (cut 3),jI (cut 4)]),(0,.var 119 (catV (cv61 o0_HairBook) [.fmp (List.map m124_33 mf)])),(1,.var 187 [.yld]),(2,.var 133 [.d (.fn 118)]),(3,.var 108 [.clo 87 [.agg [.d (.sl 4 (List.map e65 m0_HairBook.Hanks)),.d (.sl 3 (List.map e67 m0_HairBook.Horses)),jI m0_HairBook.Dark,jI m0_HairBook.Near,jI m0_HairBook.Match,.fmp (List.map m124_33 mf_1)]] []]),(4,.var 187 [.clo 122 [] [.ptr 0 0,.ptr 1 0,.ptr 2 0,.ptr 3 0,.ptr 4 0]])],6,(fr_ s_),[],5⟩ ?_
     obtain rfl:=Option.some.inj h
     exact hK_7 _ (Can.kp (by kernel_rfl))
    ·cases h
   ·refine AW.seq (AW.skip ?_)
    refine AW.seqK fun K_14 hK_14=>AW.srwK fun Q_15 hQ_15=>?_
    refine Au 3 ⟨[(0,.d (.sl 1 (List.map e3 plan))),pR 4 2,pR 5 3,pR 6 4,pR 8 5,(10,jI (plan.length:Int)),(11,jI need),(42,.d (.sl 4 (List.map e65 o0_HairBook.Hanks)))],[(5,.var 128 [jI (cut 0),jI (cut 1),jI (cut 2),jI (cut 3),jI (cut 4)]),(0,.var 119 (catV (cv61 o0_HairBook) [.fmp (List.map m124_33 mf)])),(1,.var 187 [.yld]),(2,.var 133 [.d (.fn 118)]),(3,.var 108 [.clo 87 [.agg [.d (.sl 4 (List.map e65 m0_HairBook.Hanks)),.d (.sl 3 (List.map e67 m0_HairBook.Horses)),jI m0_HairBook.Dark,jI m0_HairBook.Near,jI m0_HairBook.Match,.fmp (List.map m124_33 mf_1)]] []]),(4,.var 187 [.clo 122 [] [.ptr 0 0,.ptr 1 0,.ptr 2 0,.ptr 3 0,.ptr 4 0]])],6,(fr_ s_),[],5⟩ ?_
    refine rL rfl ?_
    refine Au 1 ⟨[(0,.d (.sl 1 (List.map e3 plan))),pR 4 2,pR 5 3,pR 6 4,pR 8 5,(10,jI (plan.length:Int)),(11,jI need),(42,.d (.sl 4 (List.map e65 o0_HairBook.Hanks))),(43,jI (o0_HairBook.Hanks.length:Int)),(44,jI 0)],[(5,.var 128 [jI (cut 0),jI (cut 1),jI (cut 2),jI (cut 3),jI (cut 4)]),(0,.var 119 (catV (cv61 o0_HairBook) [.fmp (List.map m124_33 mf)])),(1,.var 187 [.yld]),(2,.var 133 [.d (.fn 118)]),(3,.var 108 [.clo 87 [.agg [.d (.sl 4 (List.map e65 m0_HairBook.Hanks)),.d (.sl 3 (List.map e67 m0_HairBook.Horses)),jI m0_HairBook.Dark,jI m0_HairBook.Near,jI m0_HairBook.Match,.fmp (List.map m124_33 mf_1)]] []]),(4,.var 187 [.clo 122 [] [.ptr 0 0,.ptr 1 0,.ptr 2 0,.ptr 3 0,.ptr 4 0]])],6,(fr_ s_),[],5⟩ ?_
    refine RW.nil (hQ_15 _ ?_)
    refine AW.block ?_
    refine AW.sln (t:=42) rfl (fun hN_16=>?_)
    rw [List.length_map] at hN_16
    obtain ⟨out_16,hx_16,hk_16⟩:=bsomeC h
    refine AW.evCK (fun (v:Int) (s_2:S_)=>⟨[(0,.d (.sl 1 (List.map e3 plan))),pR 4 2,pR 5 3,pR 6 4,pR 8 5,(10,jI (plan.length:Int)),(11,jI need),(42,.d (.sl 4 (List.map e65 o0_HairBook.Hanks))),(43,jI (o0_HairBook.Hanks.length:Int)),(44,jI v)],[(5,.var 128 [jI (cut 0),jI (cut 1),jI (cut 2),jI (cut 3),jI (cut 4)]),(0,.var 119 (catV (cv61 o0_HairBook) [.fmp (List.map m124_33 mf)])),(1,.var 187 [.yld]),(2,.var 133 [.d (.fn 118)]),(3,.var 108 [.clo 87 [.agg [.d (.sl 4 (List.map e65 m0_HairBook.Hanks)),.d (.sl 3 (List.map e67 m0_HairBook.Horses)),jI m0_HairBook.Dark,jI m0_HairBook.Near,jI m0_HairBook.Match,.fmp (List.map m124_33 mf_1)]] []]),(4,.var 187 [.clo 122 [] [.ptr 0 0,.ptr 1 0,.ptr 2 0,.ptr 3 0,.ptr 4 0]])],6,(fr_ s_2),[],5⟩) (g122_16 (g122 c_ n_) plan cut o0_HairBook mf m0_HairBook mf_1 need) hx_16 (Can.kp (by kernel_rfl)) (fun v p2 s_2 hi_16 hl_16 hp_16 c_16 h hb_16 K_16 hK_16=>?_) (fun v s_2 hi_16 hl_16 hout=>?_)
    ·unfold g122_16 at h
     refine Sa ⟨[(0,.d (.sl 1 (List.map e3 plan))),pR 4 2,pR 5 3,pR 6 4,pR 8 5,(10,jI (plan.length:Int)),(11,jI need),(42,.d (.sl 4 (List.map e65 o0_HairBook.Hanks))),(43,jI (o0_HairBook.Hanks.length:Int)),(44,jI v),(45,.d (.bool (decide (v<(o0_HairBook.Hanks.length:Int)))))],[(5,.var 128 [jI (cut 0),jI (cut 1),jI (cut 2),jI (cut 3),jI (cut 4)]),(0,.var 119 (catV (cv61 o0_HairBook) [.fmp (List.map m124_33 mf)])),(1,.var 187 [.yld]),(2,.var 133 [.d (.fn 118)]),(3,.var 108 [.clo 87 [.agg [.d (.sl 4 (List.map e65 m0_HairBook.Hanks)),.d (.sl 3 (List.map e67 m0_HairBook.Horses)),jI m0_HairBook.Dark,jI m0_HairBook.Near,jI m0_HairBook.Match,.fmp (List.map m124_33 mf_1)]] []]),(4,.var 187 [.clo 122 [] [.ptr 0 0,.ptr 1 0,.ptr 2 0,.ptr 3 0,.ptr 4 0]])],6,(fr_ s_2),[],5⟩ ?_
     refine AW.seqK (fun K_17 hK_17=>?_)
     refine AW.cond rfl (fun hb_18=>?_) (fun hb_18=>False.elim (by have:=of_decide_eq_false hb_18;omega))
     refine AW.skip (hK_17 _ ?_)
     refine AW.seqK (fun K_19 hK_19=>?_)
     refine AW.block ?_
     refine AW.srwK (fun Q_20 hQ_20=>?_)
     refine Au 1 ⟨[(0,.d (.sl 1 (List.map e3 plan))),pR 4 2,pR 5 3,pR 6 4,pR 8 5,(10,jI (plan.length:Int)),(11,jI need),(42,.d (.sl 4 (List.map e65 o0_HairBook.Hanks))),(43,jI (o0_HairBook.Hanks.length:Int)),(44,jI v),(46,jI v)],[(5,.var 128 [jI (cut 0),jI (cut 1),jI (cut 2),jI (cut 3),jI (cut 4)]),(0,.var 119 (catV (cv61 o0_HairBook) [.fmp (List.map m124_33 mf)])),(1,.var 187 [.yld]),(2,.var 133 [.d (.fn 118)]),(3,.var 108 [.clo 87 [.agg [.d (.sl 4 (List.map e65 m0_HairBook.Hanks)),.d (.sl 3 (List.map e67 m0_HairBook.Horses)),jI m0_HairBook.Dark,jI m0_HairBook.Near,jI m0_HairBook.Match,.fmp (List.map m124_33 mf_1)]] []]),(4,.var 187 [.clo 122 [] [.ptr 0 0,.ptr 1 0,.ptr 2 0,.ptr 3 0,.ptr 4 0]])],6,(fr_ s_2),[],5⟩ ?_
     refine RW.one fokW (r_iaD trivial rfl rfl hi_16 (row:=e65 p2) (mapget hp_16) (r_end ?_))
     refine Au 4 ⟨[(0,.d (.sl 1 (List.map e3 plan))),pR 4 2,pR 5 3,pR 6 4,pR 8 5,(10,jI (plan.length:Int)),(11,jI need),(12,jI v),pR 13 6,(42,.d (.sl 4 (List.map e65 o0_HairBook.Hanks))),(43,jI (o0_HairBook.Hanks.length:Int)),(44,jI v)],[(6,.var 65 (cv65 p2)),(5,.var 128 [jI (cut 0),jI (cut 1),jI (cut 2),jI (cut 3),jI (cut 4)]),(0,.var 119 (catV (cv61 o0_HairBook) [.fmp (List.map m124_33 mf)])),(1,.var 187 [.yld]),(2,.var 133 [.d (.fn 118)]),(3,.var 108 [.clo 87 [.agg [.d (.sl 4 (List.map e65 m0_HairBook.Hanks)),.d (.sl 3 (List.map e67 m0_HairBook.Horses)),jI m0_HairBook.Dark,jI m0_HairBook.Near,jI m0_HairBook.Match,.fmp (List.map m124_33 mf_1)]] []]),(4,.var 187 [.clo 122 [] [.ptr 0 0,.ptr 1 0,.ptr 2 0,.ptr 3 0,.ptr 4 0]])],7,(fr_ s_2),[],5⟩ ?_
     refine RW.nil (hQ_20 _ ?_)
     obtain ⟨c_21,hx_21,hk_21⟩:=bsomeC h
     refine AW.jnK (fun (_:Unit)=>⟨[(0,.d (.sl 1 (List.map e3 plan))),pR 4 2,pR 5 3,pR 6 4,pR 8 5,(10,jI (plan.length:Int)),(11,jI need),(12,jI v),(42,.d (.sl 4 (List.map e65 o0_HairBook.Hanks))),(43,jI (o0_HairBook.Hanks.length:Int)),(44,jI v)],[(5,.var 128 [jI (cut 0),jI (cut 1),jI (cut 2),jI (cut 3),jI (cut 4)]),(0,.var 119 (catV (cv61 o0_HairBook) [.fmp (List.map m124_33 mf)])),(1,.var 187 [.yld]),(2,.var 133 [.d (.fn 118)]),(3,.var 108 [.clo 87 [.agg [.d (.sl 4 (List.map e65 m0_HairBook.Hanks)),.d (.sl 3 (List.map e67 m0_HairBook.Horses)),jI m0_HairBook.Dark,jI m0_HairBook.Near,jI m0_HairBook.Match,.fmp (List.map m124_33 mf_1)]] []]),(4,.var 187 [.clo 122 [] [.ptr 0 0,.ptr 1 0,.ptr 2 0,.ptr 3 0,.ptr 4 0]])],7,(fr_ s_2),[],5⟩) (c:=c_21) (fun K_21 hK_21=>?_) (fun j_21 hj_21=>?_)
     ·have h:=hx_21
      refine AW.sdrwK fokW (fun Q_22 hQ_22=>?_)
      refine aX 1 ⟨[(0,.d (.sl 1 (List.map e3 plan))),pR 4 2,pR 5 3,pR 6 4,pR 8 5,(10,jI (plan.length:Int)),(11,jI need),(12,jI v),pR 13 6,(42,.d (.sl 4 (List.map e65 o0_HairBook.Hanks))),(43,jI (o0_HairBook.Hanks.length:Int)),(44,jI v),(49,jI v)],[(6,.var 65 (cv65 p2)),(5,.var 128 [jI (cut 0),jI (cut 1),jI (cut 2),jI (cut 3),jI (cut 4)]),(0,.var 119 (catV (cv61 o0_HairBook) [.fmp (List.map m124_33 mf)])),(1,.var 187 [.yld]),(2,.var 133 [.d (.fn 118)]),(3,.var 108 [.clo 87 [.agg [.d (.sl 4 (List.map e65 m0_HairBook.Hanks)),.d (.sl 3 (List.map e67 m0_HairBook.Horses)),jI m0_HairBook.Dark,jI m0_HairBook.Near,jI m0_HairBook.Match,.fmp (List.map m124_33 mf_1)]] []]),(4,.var 187 [.clo 122 [] [.ptr 0 0,.ptr 1 0,.ptr 2 0,.ptr 3 0,.ptr 4 0]])],7,(fr_ s_2),[],5⟩ ?_
      obtain ⟨j1,hv_23,h⟩:=bsome h
      refine r_iaV trivial rfl rfl rfl (ixN_ok hv_23).1 (ixN_ok hv_23).2.1 ?_
      refine r_loadV trivial rfl rfl (u:=jI (cut j1)) (agt (f:=fun k=>jI (cut k)) hv_23) ?_
      refine aX 6 ⟨[(0,.d (.sl 1 (List.map e3 plan))),pR 4 2,pR 5 3,pR 6 4,pR 8 5,(10,jI (plan.length:Int)),(11,jI need),(12,jI v),(42,.d (.sl 4 (List.map e65 o0_HairBook.Hanks))),(43,jI (o0_HairBook.Hanks.length:Int)),(44,jI v),(53,jI (wr ((cut j1)+need))),(55,.d (.fn 118)),(57,.agg [jI p2.Weight.Low,jI p2.Weight.High])],[(6,.var 65 (cv65 p2)),(5,.var 128 [jI (cut 0),jI (cut 1),jI (cut 2),jI (cut 3),jI (cut 4)]),(0,.var 119 (catV (cv61 o0_HairBook) [.fmp (List.map m124_33 mf)])),(1,.var 187 [.yld]),(2,.var 133 [.d (.fn 118)]),(3,.var 108 [.clo 87 [.agg [.d (.sl 4 (List.map e65 m0_HairBook.Hanks)),.d (.sl 3 (List.map e67 m0_HairBook.Horses)),jI m0_HairBook.Dark,jI m0_HairBook.Near,jI m0_HairBook.Match,.fmp (List.map m124_33 mf_1)]] []]),(4,.var 187 [.clo 122 [] [.ptr 0 0,.ptr 1 0,.ptr 2 0,.ptr 3 0,.ptr 4 0]])],7,(fr_ s_2),[],5⟩ ?_
      obtain ⟨r0_2,hx_24,h⟩:=bsome h
      refine r_callvZ (zr:=[]) trivial rfl (.fn _) (by kernel_rfl) rfl (k118 p2.Weight _ hx_24) trivial ⟨.refl _,trivial⟩ rfl rfl rfl rfl ?_
      refine aX 2 ⟨[(0,.d (.sl 1 (List.map e3 plan))),pR 4 2,pR 5 3,pR 6 4,pR 8 5,(10,jI (plan.length:Int)),(11,jI need),(12,jI v),(42,.d (.sl 4 (List.map e65 o0_HairBook.Hanks))),(43,jI (o0_HairBook.Hanks.length:Int)),(44,jI v),(60,.d (.bool (decide (r0_2<(wr ((cut j1)+need))))))],[(6,.var 65 (cv65 p2)),(5,.var 128 [jI (cut 0),jI (cut 1),jI (cut 2),jI (cut 3),jI (cut 4)]),(0,.var 119 (catV (cv61 o0_HairBook) [.fmp (List.map m124_33 mf)])),(1,.var 187 [.yld]),(2,.var 133 [.d (.fn 118)]),(3,.var 108 [.clo 87 [.agg [.d (.sl 4 (List.map e65 m0_HairBook.Hanks)),.d (.sl 3 (List.map e67 m0_HairBook.Horses)),jI m0_HairBook.Dark,jI m0_HairBook.Near,jI m0_HairBook.Match,.fmp (List.map m124_33 mf_1)]] []]),(4,.var 187 [.clo 122 [] [.ptr 0 0,.ptr 1 0,.ptr 2 0,.ptr 3 0,.ptr 4 0]])],7,(fr_ s_2),[],5⟩ ?_
      refine r_split 60 rfl (fun hb_25=>?_) (fun hb_25=>?_)
      ·have h:=ifT hb_25 h
       refine aX 17 ⟨[(0,.d (.sl 1 (List.map e3 plan))),pR 4 2,pR 5 3,pR 6 4,pR 8 5,(10,jI (plan.length:Int)),(11,jI need),(12,jI v),(42,.d (.sl 4 (List.map e65 o0_HairBook.Hanks))),(43,jI (o0_HairBook.Hanks.length:Int)),(44,jI v),(77,.d (.bool true))],[(6,.var 65 (cv65 p2)),(5,.var 128 [jI (cut 0),jI (cut 1),jI (cut 2),jI (cut 3),jI (cut 4)]),(0,.var 119 (catV (cv61 o0_HairBook) [.fmp (List.map m124_33 mf)])),(1,.var 187 [.yld]),(2,.var 133 [.d (.fn 118)]),(3,.var 108 [.clo 87 [.agg [.d (.sl 4 (List.map e65 m0_HairBook.Hanks)),.d (.sl 3 (List.map e67 m0_HairBook.Horses)),jI m0_HairBook.Dark,jI m0_HairBook.Near,jI m0_HairBook.Match,.fmp (List.map m124_33 mf_1)]] []]),(4,.var 187 [.clo 122 [] [.ptr 0 0,.ptr 1 0,.ptr 2 0,.ptr 3 0,.ptr 4 0]])],7,(fr_ s_2),[],5⟩ ?_
       refine Fi ⟨[(0,.d (.sl 1 (List.map e3 plan))),pR 4 2,pR 5 3,pR 6 4,pR 8 5,(10,jI (plan.length:Int)),(11,jI need),(12,jI v),(42,.d (.sl 4 (List.map e65 o0_HairBook.Hanks))),(43,jI (o0_HairBook.Hanks.length:Int)),(44,jI v),(77,.d (.bool true))],[(5,.var 128 [jI (cut 0),jI (cut 1),jI (cut 2),jI (cut 3),jI (cut 4)]),(0,.var 119 (catV (cv61 o0_HairBook) [.fmp (List.map m124_33 mf)])),(1,.var 187 [.yld]),(2,.var 133 [.d (.fn 118)]),(3,.var 108 [.clo 87 [.agg [.d (.sl 4 (List.map e65 m0_HairBook.Hanks)),.d (.sl 3 (List.map e67 m0_HairBook.Horses)),jI m0_HairBook.Dark,jI m0_HairBook.Near,jI m0_HairBook.Match,.fmp (List.map m124_33 mf_1)]] []]),(4,.var 187 [.clo 122 [] [.ptr 0 0,.ptr 1 0,.ptr 2 0,.ptr 3 0,.ptr 4 0]])],7,(fr_ s_2),[],5⟩ ?_
       refine hQ_22 _ ?_
       refine AW.condT rfl ?_
       refine AW.exit ?_
       refine hK_19 _ ?_
       refine Ra ⟨[(0,.d (.sl 1 (List.map e3 plan))),pR 4 2,pR 5 3,pR 6 4,pR 8 5,(10,jI (plan.length:Int)),(11,jI need),(42,.d (.sl 4 (List.map e65 o0_HairBook.Hanks))),(43,jI (o0_HairBook.Hanks.length:Int)),(44,jI (wr (v+1)))],[(5,.var 128 [jI (cut 0),jI (cut 1),jI (cut 2),jI (cut 3),jI (cut 4)]),(0,.var 119 (catV (cv61 o0_HairBook) [.fmp (List.map m124_33 mf)])),(1,.var 187 [.yld]),(2,.var 133 [.d (.fn 118)]),(3,.var 108 [.clo 87 [.agg [.d (.sl 4 (List.map e65 m0_HairBook.Hanks)),.d (.sl 3 (List.map e67 m0_HairBook.Horses)),jI m0_HairBook.Dark,jI m0_HairBook.Near,jI m0_HairBook.Match,.fmp (List.map m124_33 mf_1)]] []]),(4,.var 187 [.clo 122 [] [.ptr 0 0,.ptr 1 0,.ptr 2 0,.ptr 3 0,.ptr 4 0]])],7,(fr_ s_2),[],5⟩ ?_
       obtain rfl:=Option.some.inj h
       obtain rfl:=Aft.bk hk_21
       have ew:wr (v+1)=v+1:=inext (N:=(o0_HairBook.Hanks.length:Int)) (by omega) (by omega) (by omega)
       rw [ew]
       exact hK_16 _ _ rfl (Can.kp (by kernel_rfl))
      ·have h:=ifF hb_25 h
       refine aX 4 ⟨[(0,.d (.sl 1 (List.map e3 plan))),pR 4 2,pR 5 3,pR 6 4,pR 8 5,(10,jI (plan.length:Int)),(11,jI need),(12,jI v),(42,.d (.sl 4 (List.map e65 o0_HairBook.Hanks))),(43,jI (o0_HairBook.Hanks.length:Int)),(44,jI v),(60,.d (.bool false)),(64,.d (.bool (decide (((plan.length:Int).tmod 2)=1))))],[(6,.var 65 (cv65 p2)),(5,.var 128 [jI (cut 0),jI (cut 1),jI (cut 2),jI (cut 3),jI (cut 4)]),(0,.var 119 (catV (cv61 o0_HairBook) [.fmp (List.map m124_33 mf)])),(1,.var 187 [.yld]),(2,.var 133 [.d (.fn 118)]),(3,.var 108 [.clo 87 [.agg [.d (.sl 4 (List.map e65 m0_HairBook.Hanks)),.d (.sl 3 (List.map e67 m0_HairBook.Horses)),jI m0_HairBook.Dark,jI m0_HairBook.Near,jI m0_HairBook.Match,.fmp (List.map m124_33 mf_1)]] []]),(4,.var 187 [.clo 122 [] [.ptr 0 0,.ptr 1 0,.ptr 2 0,.ptr 3 0,.ptr 4 0]])],7,(fr_ s_2),[],5⟩ ?_
       refine r_split 64 rfl (fun hb_26=>?_) (fun hb_26=>?_)
       ·have h:=ifT hb_26 h
        refine aX 6 ⟨[(0,.d (.sl 1 (List.map e3 plan))),pR 4 2,pR 5 3,pR 6 4,pR 8 5,(10,jI (plan.length:Int)),(11,jI need),(12,jI v),(42,.d (.sl 4 (List.map e65 o0_HairBook.Hanks))),(43,jI (o0_HairBook.Hanks.length:Int)),(44,jI v),(60,.d (.bool false)),(64,.d (.bool true)),(65,.clo 87 [.agg [.d (.sl 4 (List.map e65 m0_HairBook.Hanks)),.d (.sl 3 (List.map e67 m0_HairBook.Horses)),jI m0_HairBook.Dark,jI m0_HairBook.Near,jI m0_HairBook.Match,.fmp (List.map m124_33 mf_1)]] []),(67,jI (wr ((plan.length:Int).tdiv 2))),(68,.d (.sl 1 (List.map e3 plan))),(70,jI (wr ((plan.length:Int) - 1)))],[(6,.var 65 (cv65 p2)),(5,.var 128 [jI (cut 0),jI (cut 1),jI (cut 2),jI (cut 3),jI (cut 4)]),(0,.var 119 (catV (cv61 o0_HairBook) [.fmp (List.map m124_33 mf)])),(1,.var 187 [.yld]),(2,.var 133 [.d (.fn 118)]),(3,.var 108 [.clo 87 [.agg [.d (.sl 4 (List.map e65 m0_HairBook.Hanks)),.d (.sl 3 (List.map e67 m0_HairBook.Horses)),jI m0_HairBook.Dark,jI m0_HairBook.Near,jI m0_HairBook.Match,.fmp (List.map m124_33 mf_1)]] []]),(4,.var 187 [.clo 122 [] [.ptr 0 0,.ptr 1 0,.ptr 2 0,.ptr 3 0,.ptr 4 0]])],7,(fr_ s_2),[],5⟩ ?_
        obtain ⟨p3,hv_27,h⟩:=bsome h
        refine r_iaD rfl rfl rfl (ixL_ok hv_27).1 (row:=e3 p3) (mapget (ixL_ok hv_27).2) ?_
        refine aX 2 ⟨[(0,.d (.sl 1 (List.map e3 plan))),pR 4 2,pR 5 3,pR 6 4,pR 8 5,(10,jI (plan.length:Int)),(11,jI need),(12,jI v),(42,.d (.sl 4 (List.map e65 o0_HairBook.Hanks))),(43,jI (o0_HairBook.Hanks.length:Int)),(44,jI v),(60,.d (.bool false)),(64,.d (.bool true)),(65,.clo 87 [.agg [.d (.sl 4 (List.map e65 m0_HairBook.Hanks)),.d (.sl 3 (List.map e67 m0_HairBook.Horses)),jI m0_HairBook.Dark,jI m0_HairBook.Near,jI m0_HairBook.Match,.fmp (List.map m124_33 mf_1)]] []),(67,jI (wr ((plan.length:Int).tdiv 2))),(72,jI p3),(73,jI v)],[(6,.var 65 (cv65 p2)),(5,.var 128 [jI (cut 0),jI (cut 1),jI (cut 2),jI (cut 3),jI (cut 4)]),(0,.var 119 (catV (cv61 o0_HairBook) [.fmp (List.map m124_33 mf)])),(1,.var 187 [.yld]),(2,.var 133 [.d (.fn 118)]),(3,.var 108 [.clo 87 [.agg [.d (.sl 4 (List.map e65 m0_HairBook.Hanks)),.d (.sl 3 (List.map e67 m0_HairBook.Horses)),jI m0_HairBook.Dark,jI m0_HairBook.Near,jI m0_HairBook.Match,.fmp (List.map m124_33 mf_1)]] []]),(4,.var 187 [.clo 122 [] [.ptr 0 0,.ptr 1 0,.ptr 2 0,.ptr 3 0,.ptr 4 0]])],7,(fr_ s_2),[],5⟩ ?_
        obtain ⟨r0_3,hx_28,h⟩:=bsome h
        refine r_callvZ (zr:=[]) rfl rfl (.clo _ _ _) (by kernel_rfl) rfl (k87 m0_HairBook mf_1 (wr ((plan.length:Int).tdiv 2)) p3 v _ hx_28) trivial ⟨.refl _,.refl _,.refl _,.refl _,trivial⟩ rfl rfl rfl rfl ?_
        refine aX 3 ⟨[(0,.d (.sl 1 (List.map e3 plan))),pR 4 2,pR 5 3,pR 6 4,pR 8 5,(10,jI (plan.length:Int)),(11,jI need),(12,jI v),(42,.d (.sl 4 (List.map e65 o0_HairBook.Hanks))),(43,jI (o0_HairBook.Hanks.length:Int)),(44,jI v),(77,.d (.bool (!r0_3)))],[(6,.var 65 (cv65 p2)),(5,.var 128 [jI (cut 0),jI (cut 1),jI (cut 2),jI (cut 3),jI (cut 4)]),(0,.var 119 (catV (cv61 o0_HairBook) [.fmp (List.map m124_33 mf)])),(1,.var 187 [.yld]),(2,.var 133 [.d (.fn 118)]),(3,.var 108 [.clo 87 [.agg [.d (.sl 4 (List.map e65 m0_HairBook.Hanks)),.d (.sl 3 (List.map e67 m0_HairBook.Horses)),jI m0_HairBook.Dark,jI m0_HairBook.Near,jI m0_HairBook.Match,.fmp (List.map m124_33 mf_1)]] []]),(4,.var 187 [.clo 122 [] [.ptr 0 0,.ptr 1 0,.ptr 2 0,.ptr 3 0,.ptr 4 0]])],7,(fr_ s_2),[],5⟩ ?_
        refine Fi ⟨[(0,.d (.sl 1 (List.map e3 plan))),pR 4 2,pR 5 3,pR 6 4,pR 8 5,(10,jI (plan.length:Int)),(11,jI need),(12,jI v),(42,.d (.sl 4 (List.map e65 o0_HairBook.Hanks))),(43,jI (o0_HairBook.Hanks.length:Int)),(44,jI v),(77,.d (.bool (!r0_3)))],[(5,.var 128 [jI (cut 0),jI (cut 1),jI (cut 2),jI (cut 3),jI (cut 4)]),(0,.var 119 (catV (cv61 o0_HairBook) [.fmp (List.map m124_33 mf)])),(1,.var 187 [.yld]),(2,.var 133 [.d (.fn 118)]),(3,.var 108 [.clo 87 [.agg [.d (.sl 4 (List.map e65 m0_HairBook.Hanks)),.d (.sl 3 (List.map e67 m0_HairBook.Horses)),jI m0_HairBook.Dark,jI m0_HairBook.Near,jI m0_HairBook.Match,.fmp (List.map m124_33 mf_1)]] []]),(4,.var 187 [.clo 122 [] [.ptr 0 0,.ptr 1 0,.ptr 2 0,.ptr 3 0,.ptr 4 0]])],7,(fr_ s_2),[],5⟩ ?_
        refine hQ_22 _ ?_
        refine AW.cond rfl (fun hb_29=>?_) (fun hb_29=>?_)
        ·have h:=ifT hb_29 h
         refine AW.exit ?_
         refine hK_19 _ ?_
         refine Ra ⟨[(0,.d (.sl 1 (List.map e3 plan))),pR 4 2,pR 5 3,pR 6 4,pR 8 5,(10,jI (plan.length:Int)),(11,jI need),(42,.d (.sl 4 (List.map e65 o0_HairBook.Hanks))),(43,jI (o0_HairBook.Hanks.length:Int)),(44,jI (wr (v+1)))],[(5,.var 128 [jI (cut 0),jI (cut 1),jI (cut 2),jI (cut 3),jI (cut 4)]),(0,.var 119 (catV (cv61 o0_HairBook) [.fmp (List.map m124_33 mf)])),(1,.var 187 [.yld]),(2,.var 133 [.d (.fn 118)]),(3,.var 108 [.clo 87 [.agg [.d (.sl 4 (List.map e65 m0_HairBook.Hanks)),.d (.sl 3 (List.map e67 m0_HairBook.Horses)),jI m0_HairBook.Dark,jI m0_HairBook.Near,jI m0_HairBook.Match,.fmp (List.map m124_33 mf_1)]] []]),(4,.var 187 [.clo 122 [] [.ptr 0 0,.ptr 1 0,.ptr 2 0,.ptr 3 0,.ptr 4 0]])],7,(fr_ s_2),[],5⟩ ?_
         obtain rfl:=Option.some.inj h
         obtain rfl:=Aft.bk hk_21
         have ew:wr (v+1)=v+1:=inext (N:=(o0_HairBook.Hanks.length:Int)) (by omega) (by omega) (by omega)
         rw [ew]
         exact hK_16 _ _ rfl (Can.kp (by kernel_rfl))
        ·have h:=ifF hb_29 h
         refine AW.skip ?_
         obtain rfl:=Option.some.inj h
         exact hK_21 _ _ rfl (Can.kp (by kernel_rfl))
       ·have h:=ifF hb_26 h
        refine aX 13 ⟨[(0,.d (.sl 1 (List.map e3 plan))),pR 4 2,pR 5 3,pR 6 4,pR 8 5,(10,jI (plan.length:Int)),(11,jI need),(12,jI v),(42,.d (.sl 4 (List.map e65 o0_HairBook.Hanks))),(43,jI (o0_HairBook.Hanks.length:Int)),(44,jI v),(77,.d (.bool false))],[(6,.var 65 (cv65 p2)),(5,.var 128 [jI (cut 0),jI (cut 1),jI (cut 2),jI (cut 3),jI (cut 4)]),(0,.var 119 (catV (cv61 o0_HairBook) [.fmp (List.map m124_33 mf)])),(1,.var 187 [.yld]),(2,.var 133 [.d (.fn 118)]),(3,.var 108 [.clo 87 [.agg [.d (.sl 4 (List.map e65 m0_HairBook.Hanks)),.d (.sl 3 (List.map e67 m0_HairBook.Horses)),jI m0_HairBook.Dark,jI m0_HairBook.Near,jI m0_HairBook.Match,.fmp (List.map m124_33 mf_1)]] []]),(4,.var 187 [.clo 122 [] [.ptr 0 0,.ptr 1 0,.ptr 2 0,.ptr 3 0,.ptr 4 0]])],7,(fr_ s_2),[],5⟩ ?_
        refine Fi ⟨[(0,.d (.sl 1 (List.map e3 plan))),pR 4 2,pR 5 3,pR 6 4,pR 8 5,(10,jI (plan.length:Int)),(11,jI need),(12,jI v),(42,.d (.sl 4 (List.map e65 o0_HairBook.Hanks))),(43,jI (o0_HairBook.Hanks.length:Int)),(44,jI v),(77,.d (.bool false))],[(5,.var 128 [jI (cut 0),jI (cut 1),jI (cut 2),jI (cut 3),jI (cut 4)]),(0,.var 119 (catV (cv61 o0_HairBook) [.fmp (List.map m124_33 mf)])),(1,.var 187 [.yld]),(2,.var 133 [.d (.fn 118)]),(3,.var 108 [.clo 87 [.agg [.d (.sl 4 (List.map e65 m0_HairBook.Hanks)),.d (.sl 3 (List.map e67 m0_HairBook.Horses)),jI m0_HairBook.Dark,jI m0_HairBook.Near,jI m0_HairBook.Match,.fmp (List.map m124_33 mf_1)]] []]),(4,.var 187 [.clo 122 [] [.ptr 0 0,.ptr 1 0,.ptr 2 0,.ptr 3 0,.ptr 4 0]])],7,(fr_ s_2),[],5⟩ ?_
        refine hQ_22 _ ?_
        refine AW.condF rfl ?_
        refine AW.skip ?_
        obtain rfl:=Option.some.inj h
        exact hK_21 _ _ rfl (Can.kp (by kernel_rfl))
     ·subst hj_21
      have h:=Aft.nx hk_21
      refine Sa ⟨[(0,.d (.sl 1 (List.map e3 plan))),pR 4 2,pR 5 3,pR 6 4,pR 8 5,(10,jI (plan.length:Int)),(11,jI need),(12,jI v),pR 14 7,(42,.d (.sl 4 (List.map e65 o0_HairBook.Hanks))),(43,jI (o0_HairBook.Hanks.length:Int)),(44,jI v)],[(7,.var 128 [jI (cut 0),jI (cut 1),jI (cut 2),jI (cut 3),jI (cut 4)]),(5,.var 128 [jI (cut 0),jI (cut 1),jI (cut 2),jI (cut 3),jI (cut 4)]),(0,.var 119 (catV (cv61 o0_HairBook) [.fmp (List.map m124_33 mf)])),(1,.var 187 [.yld]),(2,.var 133 [.d (.fn 118)]),(3,.var 108 [.clo 87 [.agg [.d (.sl 4 (List.map e65 m0_HairBook.Hanks)),.d (.sl 3 (List.map e67 m0_HairBook.Horses)),jI m0_HairBook.Dark,jI m0_HairBook.Near,jI m0_HairBook.Match,.fmp (List.map m124_33 mf_1)]] []]),(4,.var 187 [.clo 122 [] [.ptr 0 0,.ptr 1 0,.ptr 2 0,.ptr 3 0,.ptr 4 0]])],8,(fr_ s_2),[],5⟩ ?_
      refine AW.srwK (fun Q_30 hQ_30=>?_)
      refine Au 1 ⟨[(0,.d (.sl 1 (List.map e3 plan))),pR 4 2,pR 5 3,pR 6 4,pR 8 5,(10,jI (plan.length:Int)),(11,jI need),(12,jI v),pR 14 7,(42,.d (.sl 4 (List.map e65 o0_HairBook.Hanks))),(43,jI (o0_HairBook.Hanks.length:Int)),(44,jI v),(79,jI v)],[(7,.var 128 [jI (cut 0),jI (cut 1),jI (cut 2),jI (cut 3),jI (cut 4)]),(5,.var 128 [jI (cut 0),jI (cut 1),jI (cut 2),jI (cut 3),jI (cut 4)]),(0,.var 119 (catV (cv61 o0_HairBook) [.fmp (List.map m124_33 mf)])),(1,.var 187 [.yld]),(2,.var 133 [.d (.fn 118)]),(3,.var 108 [.clo 87 [.agg [.d (.sl 4 (List.map e65 m0_HairBook.Hanks)),.d (.sl 3 (List.map e67 m0_HairBook.Horses)),jI m0_HairBook.Dark,jI m0_HairBook.Near,jI m0_HairBook.Match,.fmp (List.map m124_33 mf_1)]] []]),(4,.var 187 [.clo 122 [] [.ptr 0 0,.ptr 1 0,.ptr 2 0,.ptr 3 0,.ptr 4 0]])],8,(fr_ s_2),[],5⟩ ?_
      obtain ⟨j2,hv_31,h⟩:=bsome h
      refine RW.one fokW (r_iaV trivial rfl rfl rfl (ixN_ok hv_31).1 (ixN_ok hv_31).2.1 (r_end ?_))
      refine RW.one fokW (r_loadV trivial rfl rfl (u:=jI (cut j2)) (agt (f:=fun k=>jI (cut k)) hv_31) (r_end ?_))
      refine Au 2 ⟨[(0,.d (.sl 1 (List.map e3 plan))),pR 4 2,pR 5 3,pR 6 4,pR 8 5,(10,jI (plan.length:Int)),(11,jI need),(12,jI v),pR 14 7,(42,.d (.sl 4 (List.map e65 o0_HairBook.Hanks))),(43,jI (o0_HairBook.Hanks.length:Int)),(44,jI v),(79,jI v),(83,jI (wr ((cut j2)+need)))],[(7,.var 128 [jI (cut 0),jI (cut 1),jI (cut 2),jI (cut 3),jI (cut 4)]),(5,.var 128 [jI (cut 0),jI (cut 1),jI (cut 2),jI (cut 3),jI (cut 4)]),(0,.var 119 (catV (cv61 o0_HairBook) [.fmp (List.map m124_33 mf)])),(1,.var 187 [.yld]),(2,.var 133 [.d (.fn 118)]),(3,.var 108 [.clo 87 [.agg [.d (.sl 4 (List.map e65 m0_HairBook.Hanks)),.d (.sl 3 (List.map e67 m0_HairBook.Horses)),jI m0_HairBook.Dark,jI m0_HairBook.Near,jI m0_HairBook.Match,.fmp (List.map m124_33 mf_1)]] []]),(4,.var 187 [.clo 122 [] [.ptr 0 0,.ptr 1 0,.ptr 2 0,.ptr 3 0,.ptr 4 0]])],8,(fr_ s_2),[],5⟩ ?_
      obtain ⟨j3,hv_32,h⟩:=bsome h
      refine RW.one fokW (r_iaV trivial rfl rfl rfl (ixN_ok hv_32).1 (ixN_ok hv_32).2.1 (r_end ?_))
      refine RW.one fokW (r_stX trivial rfl rfl rfl rfl rfl (aslot hv_32 rfl) (cs':=[jI ((aset cut j3 (wr ((cut j2)+need))) 0),jI ((aset cut j3 (wr ((cut j2)+need))) 1),jI ((aset cut j3 (wr ((cut j2)+need))) 2),jI ((aset cut j3 (wr ((cut j2)+need))) 3),jI ((aset cut j3 (wr ((cut j2)+need))) 4)]) (ast (w:=cut) (c:=fun z=>jI z) hv_32) (r_end ?_))
      refine RW.nil (hQ_30 _ ?_)
      refine AW.sdrwK fokW (fun Q_33 hQ_33=>?_)
      refine aX 4 ⟨[(0,.d (.sl 1 (List.map e3 plan))),pR 4 2,pR 5 3,pR 6 4,pR 8 5,(10,jI (plan.length:Int)),(11,jI need),(12,jI v),pR 14 7,(42,.d (.sl 4 (List.map e65 o0_HairBook.Hanks))),(43,jI (o0_HairBook.Hanks.length:Int)),(44,jI v),(85,.clo 122 [] [.ptr 0 0,.ptr 1 0,.ptr 2 0,.ptr 3 0,.ptr 4 0]),(86,.d (.sl 1 (List.map e3 plan))),(87,jI (plan.length:Int)),(88,jI (plan.length:Int))],[(7,.var 128 [jI ((aset cut j3 (wr ((cut j2)+need))) 0),jI ((aset cut j3 (wr ((cut j2)+need))) 1),jI ((aset cut j3 (wr ((cut j2)+need))) 2),jI ((aset cut j3 (wr ((cut j2)+need))) 3),jI ((aset cut j3 (wr ((cut j2)+need))) 4)]),(5,.var 128 [jI (cut 0),jI (cut 1),jI (cut 2),jI (cut 3),jI (cut 4)]),(0,.var 119 (catV (cv61 o0_HairBook) [.fmp (List.map m124_33 mf)])),(1,.var 187 [.yld]),(2,.var 133 [.d (.fn 118)]),(3,.var 108 [.clo 87 [.agg [.d (.sl 4 (List.map e65 m0_HairBook.Hanks)),.d (.sl 3 (List.map e67 m0_HairBook.Horses)),jI m0_HairBook.Dark,jI m0_HairBook.Near,jI m0_HairBook.Match,.fmp (List.map m124_33 mf_1)]] []]),(4,.var 187 [.clo 122 [] [.ptr 0 0,.ptr 1 0,.ptr 2 0,.ptr 3 0,.ptr 4 0]])],8,(fr_ s_2),[],5⟩ ?_
      obtain ⟨l,hv_34,h⟩:=bsome h
      refine r_slN trivial rfl rfl rfl DSl.d (slcL_ok hv_34).2.1 (by rw [List.length_map];exact (slcL_ok hv_34).2.2.1) rfl (slz hv_34 e3) ?_
      refine aX 2 ⟨[(0,.d (.sl 1 (List.map e3 plan))),pR 4 2,pR 5 3,pR 6 4,pR 8 5,(10,jI (plan.length:Int)),(11,jI need),pR 14 7,(42,.d (.sl 4 (List.map e65 o0_HairBook.Hanks))),(43,jI (o0_HairBook.Hanks.length:Int)),(44,jI v),(85,.clo 122 [] [.ptr 0 0,.ptr 1 0,.ptr 2 0,.ptr 3 0,.ptr 4 0]),(89,.fsl 1 (List.map e3 l)),(91,.own 8 (List.map e3 [v]).length)],[(8,.row 3 1 (List.map e3 [v])),(7,.var 128 [jI ((aset cut j3 (wr ((cut j2)+need))) 0),jI ((aset cut j3 (wr ((cut j2)+need))) 1),jI ((aset cut j3 (wr ((cut j2)+need))) 2),jI ((aset cut j3 (wr ((cut j2)+need))) 3),jI ((aset cut j3 (wr ((cut j2)+need))) 4)]),(5,.var 128 [jI (cut 0),jI (cut 1),jI (cut 2),jI (cut 3),jI (cut 4)]),(0,.var 119 (catV (cv61 o0_HairBook) [.fmp (List.map m124_33 mf)])),(1,.var 187 [.yld]),(2,.var 133 [.d (.fn 118)]),(3,.var 108 [.clo 87 [.agg [.d (.sl 4 (List.map e65 m0_HairBook.Hanks)),.d (.sl 3 (List.map e67 m0_HairBook.Horses)),jI m0_HairBook.Dark,jI m0_HairBook.Near,jI m0_HairBook.Match,.fmp (List.map m124_33 mf_1)]] []]),(4,.var 187 [.clo 122 [] [.ptr 0 0,.ptr 1 0,.ptr 2 0,.ptr 3 0,.ptr 4 0]])],9,(fr_ s_2),[],5⟩ ?_
      obtain ⟨l1,hv_35,h⟩:=bsome h
      refine r_apF trivial rfl rfl rfl rfl (by simp) (zs:=List.map e3 l1) (apz hv_35 e3) (apr hv_35 e3) ?_
      refine aX 1 ⟨[(0,.d (.sl 1 (List.map e3 plan))),pR 4 2,pR 5 3,pR 6 4,pR 8 5,(10,jI (plan.length:Int)),(11,jI need),(42,.d (.sl 4 (List.map e65 o0_HairBook.Hanks))),(43,jI (o0_HairBook.Hanks.length:Int)),(44,jI v),(85,.clo 122 [] [.ptr 0 0,.ptr 1 0,.ptr 2 0,.ptr 3 0,.ptr 4 0]),(92,.own 9 (List.map e3 l1).length),(93,.agg [jI ((aset cut j3 (wr ((cut j2)+need))) 0),jI ((aset cut j3 (wr ((cut j2)+need))) 1),jI ((aset cut j3 (wr ((cut j2)+need))) 2),jI ((aset cut j3 (wr ((cut j2)+need))) 3),jI ((aset cut j3 (wr ((cut j2)+need))) 4)])],[(9,.row 3 1 (List.map e3 l1)),(8,.row 3 1 (List.map e3 [v])),(7,.var 128 [jI ((aset cut j3 (wr ((cut j2)+need))) 0),jI ((aset cut j3 (wr ((cut j2)+need))) 1),jI ((aset cut j3 (wr ((cut j2)+need))) 2),jI ((aset cut j3 (wr ((cut j2)+need))) 3),jI ((aset cut j3 (wr ((cut j2)+need))) 4)]),(5,.var 128 [jI (cut 0),jI (cut 1),jI (cut 2),jI (cut 3),jI (cut 4)]),(0,.var 119 (catV (cv61 o0_HairBook) [.fmp (List.map m124_33 mf)])),(1,.var 187 [.yld]),(2,.var 133 [.d (.fn 118)]),(3,.var 108 [.clo 87 [.agg [.d (.sl 4 (List.map e65 m0_HairBook.Hanks)),.d (.sl 3 (List.map e67 m0_HairBook.Horses)),jI m0_HairBook.Dark,jI m0_HairBook.Near,jI m0_HairBook.Match,.fmp (List.map m124_33 mf_1)]] []]),(4,.var 187 [.clo 122 [] [.ptr 0 0,.ptr 1 0,.ptr 2 0,.ptr 3 0,.ptr 4 0]])],10,(fr_ s_2),[],5⟩ ?_
      obtain ⟨⟨r0_7_1,s_5_1⟩,hx_36,h⟩:=bsome h
      refine r_callvS (zr:=[(9,.row 3 1 (List.map e3 l1))]) [0,1,2,3,4] trivial rfl (.clo _ _ _) (by kernel_rfl) rfl (ih l1 (aset cut j3 (wr ((cut j2)+need))) o0_HairBook mf m0_HairBook mf_1 s_2 _ hx_36) ⟨rfl,rfl,rfl,rfl,rfl,rfl,trivial⟩ rfl rfl ⟨(.own rfl rfl),.refl _,.refl _,.refl _,.refl _,.refl _,.refl _,trivial⟩ rfl rfl rfl ?_
      refine aX 1 ⟨[(0,.d (.sl 1 (List.map e3 plan))),pR 4 2,pR 5 3,pR 6 4,pR 8 5,(10,jI (plan.length:Int)),(11,jI need),(42,.d (.sl 4 (List.map e65 o0_HairBook.Hanks))),(43,jI (o0_HairBook.Hanks.length:Int)),(44,jI v),(95,.d (.bool (!r0_7_1)))],[(0,.var 119 (catV (cv61 o0_HairBook) [.fmp (List.map m124_33 mf)])),(1,.var 187 [.yld]),(2,.var 133 [.d (.fn 118)]),(3,.var 108 [.clo 87 [.agg [.d (.sl 4 (List.map e65 m0_HairBook.Hanks)),.d (.sl 3 (List.map e67 m0_HairBook.Horses)),jI m0_HairBook.Dark,jI m0_HairBook.Near,jI m0_HairBook.Match,.fmp (List.map m124_33 mf_1)]] []]),(4,.var 187 [.clo 122 [] [.ptr 0 0,.ptr 1 0,.ptr 2 0,.ptr 3 0,.ptr 4 0]]),(9,.dead),(8,.row 3 1 (List.map e3 [v])),(7,.var 128 [jI ((aset cut j3 (wr ((cut j2)+need))) 0),jI ((aset cut j3 (wr ((cut j2)+need))) 1),jI ((aset cut j3 (wr ((cut j2)+need))) 2),jI ((aset cut j3 (wr ((cut j2)+need))) 3),jI ((aset cut j3 (wr ((cut j2)+need))) 4)]),(5,.var 128 [jI (cut 0),jI (cut 1),jI (cut 2),jI (cut 3),jI (cut 4)])],10,(fr_ s_5_1),[],5⟩ ?_
      refine Fi ⟨[(0,.d (.sl 1 (List.map e3 plan))),pR 4 2,pR 5 3,pR 6 4,pR 8 5,(10,jI (plan.length:Int)),(11,jI need),(42,.d (.sl 4 (List.map e65 o0_HairBook.Hanks))),(43,jI (o0_HairBook.Hanks.length:Int)),(44,jI v),(95,.d (.bool (!r0_7_1)))],[(0,.var 119 (catV (cv61 o0_HairBook) [.fmp (List.map m124_33 mf)])),(1,.var 187 [.yld]),(2,.var 133 [.d (.fn 118)]),(3,.var 108 [.clo 87 [.agg [.d (.sl 4 (List.map e65 m0_HairBook.Hanks)),.d (.sl 3 (List.map e67 m0_HairBook.Horses)),jI m0_HairBook.Dark,jI m0_HairBook.Near,jI m0_HairBook.Match,.fmp (List.map m124_33 mf_1)]] []]),(4,.var 187 [.clo 122 [] [.ptr 0 0,.ptr 1 0,.ptr 2 0,.ptr 3 0,.ptr 4 0]]),(5,.var 128 [jI (cut 0),jI (cut 1),jI (cut 2),jI (cut 3),jI (cut 4)])],10,(fr_ s_5_1),[],5⟩ ?_
      refine hQ_33 _ ?_
      refine AW.cond rfl (fun hb_37=>?_) (fun hb_37=>?_)
      ·have h:=ifT hb_37 h
       refine Sa ⟨[(9,.d (.bool false))],[(0,.var 119 (catV (cv61 o0_HairBook) [.fmp (List.map m124_33 mf)])),(1,.var 187 [.yld]),(2,.var 133 [.d (.fn 118)]),(3,.var 108 [.clo 87 [.agg [.d (.sl 4 (List.map e65 m0_HairBook.Hanks)),.d (.sl 3 (List.map e67 m0_HairBook.Horses)),jI m0_HairBook.Dark,jI m0_HairBook.Near,jI m0_HairBook.Match,.fmp (List.map m124_33 mf_1)]] []]),(4,.var 187 [.clo 122 [] [.ptr 0 0,.ptr 1 0,.ptr 2 0,.ptr 3 0,.ptr 4 0]])],10,(fr_ s_5_1),[],5⟩ ?_
       obtain rfl:=Option.some.inj h
       have e_1:=hb_16 _ rfl
       subst e_1
       obtain rfl:=Aft.bk hk_16
       exact rT hR_0 (.cons (.tmp rfl) .nil)
      ·have h:=ifF hb_37 h
       refine AW.skip (hK_19 _ ?_)
       refine Ra ⟨[(0,.d (.sl 1 (List.map e3 plan))),pR 4 2,pR 5 3,pR 6 4,pR 8 5,(10,jI (plan.length:Int)),(11,jI need),(42,.d (.sl 4 (List.map e65 o0_HairBook.Hanks))),(43,jI (o0_HairBook.Hanks.length:Int)),(44,jI (wr (v+1)))],[(0,.var 119 (catV (cv61 o0_HairBook) [.fmp (List.map m124_33 mf)])),(1,.var 187 [.yld]),(2,.var 133 [.d (.fn 118)]),(3,.var 108 [.clo 87 [.agg [.d (.sl 4 (List.map e65 m0_HairBook.Hanks)),.d (.sl 3 (List.map e67 m0_HairBook.Horses)),jI m0_HairBook.Dark,jI m0_HairBook.Near,jI m0_HairBook.Match,.fmp (List.map m124_33 mf_1)]] []]),(4,.var 187 [.clo 122 [] [.ptr 0 0,.ptr 1 0,.ptr 2 0,.ptr 3 0,.ptr 4 0]]),(5,.var 128 [jI (cut 0),jI (cut 1),jI (cut 2),jI (cut 3),jI (cut 4)])],10,(fr_ s_5_1),[],5⟩ ?_
       obtain rfl:=Option.some.inj h
       have ew:wr (v+1)=v+1:=inext (N:=(o0_HairBook.Hanks.length:Int)) (by omega) (by omega) (by omega)
       rw [ew]
       exact hK_16 _ _ rfl (Can.kp (by kernel_rfl))
    ·subst hout
     have h:=Aft.nx hk_16
     refine Sa ⟨[(0,.d (.sl 1 (List.map e3 plan))),pR 4 2,pR 5 3,pR 6 4,pR 8 5,(10,jI (plan.length:Int)),(11,jI need),(42,.d (.sl 4 (List.map e65 o0_HairBook.Hanks))),(43,jI (o0_HairBook.Hanks.length:Int)),(44,jI v),(45,.d (.bool (decide (v<(o0_HairBook.Hanks.length:Int)))))],[(5,.var 128 [jI (cut 0),jI (cut 1),jI (cut 2),jI (cut 3),jI (cut 4)]),(0,.var 119 (catV (cv61 o0_HairBook) [.fmp (List.map m124_33 mf)])),(1,.var 187 [.yld]),(2,.var 133 [.d (.fn 118)]),(3,.var 108 [.clo 87 [.agg [.d (.sl 4 (List.map e65 m0_HairBook.Hanks)),.d (.sl 3 (List.map e67 m0_HairBook.Horses)),jI m0_HairBook.Dark,jI m0_HairBook.Near,jI m0_HairBook.Match,.fmp (List.map m124_33 mf_1)]] []]),(4,.var 187 [.clo 122 [] [.ptr 0 0,.ptr 1 0,.ptr 2 0,.ptr 3 0,.ptr 4 0]])],6,(fr_ s_2),[],5⟩ ?_
     refine AW.seqK (fun K_38 hK_38=>?_)
     refine AW.cond rfl (fun hb_39=>False.elim (by have:=of_decide_eq_true hb_39;omega)) (fun hb_39=>?_)
     refine AW.exit ?_
     refine hK_14 _ ?_
     refine Sa ⟨[(9,.d (.bool true))],[(0,.var 119 (catV (cv61 o0_HairBook) [.fmp (List.map m124_33 mf)])),(1,.var 187 [.yld]),(2,.var 133 [.d (.fn 118)]),(3,.var 108 [.clo 87 [.agg [.d (.sl 4 (List.map e65 m0_HairBook.Hanks)),.d (.sl 3 (List.map e67 m0_HairBook.Horses)),jI m0_HairBook.Dark,jI m0_HairBook.Near,jI m0_HairBook.Match,.fmp (List.map m124_33 mf_1)]] []]),(4,.var 187 [.clo 122 [] [.ptr 0 0,.ptr 1 0,.ptr 2 0,.ptr 3 0,.ptr 4 0]])],6,(fr_ s_2),[],5⟩ ?_
     obtain rfl:=Option.some.inj h
     exact rT hR_0 (.cons (.tmp rfl) .nil)
def g121 {S_:Type} (c_:(List Int)→(Nat→Int)→S_→Option (S_×Bool)) (o0_HairBook:HairBook) (mf:List (Hair_dye×Span)) (m0_HairBook:HairBook) (mf_1:List (Hair_dye×Span)) (s_:S_):Option S_:=(g117).bind fun r0=>(g122 c_ 1000 ([]:(List Int)) r0 o0_HairBook mf m0_HairBook mf_1 s_).bind fun (r0_7,s_5)=>some s_5
theorem k121 {S_:Type} (fr_:S_→Fr) (c_:(List Int)→(Nat→Int)→S_→Option (S_×Bool)) (hc_:∀ (a0:(List Int)) (a1:(Nat→Int)) s s2 b,c_ a0 a1 s=some (s2,b)→YCall Tryd.prog Gs (fr_ s) [.d (.sl 1 (List.map e3 a0)),.agg [jI (a1 0),jI (a1 1),jI (a1 2),jI (a1 3),jI (a1 4)]] (.d (.bool b)) (fr_ s2)) (o0_HairBook:HairBook) (mf:List (Hair_dye×Span)) (m0_HairBook:HairBook) (mf_1:List (Hair_dye×Span)) (s_:S_) (r:S_) (h:g121 c_ o0_HairBook mf m0_HairBook mf_1 s_=some r):SCall Tryd.prog Gs 121 [.yld,.ptr 0 0,.ptr 1 0,.ptr 2 0] [(0,.var 119 (catV (cv61 o0_HairBook) [.fmp (List.map m124_33 mf)])),(1,.var 133 [.d (.fn 118)]),(2,.var 108 [.clo 87 [.agg [.d (.sl 4 (List.map e65 m0_HairBook.Hanks)),.d (.sl 3 (List.map e67 m0_HairBook.Horses)),jI m0_HairBook.Dark,jI m0_HairBook.Near,jI m0_HairBook.Match,.fmp (List.map m124_33 mf_1)]] []])] 3 (fr_ s_) (.tup []) [(0,.var 119 (catV (cv61 o0_HairBook) [.fmp (List.map m124_33 mf)])),(1,.var 133 [.d (.fn 118)]),(2,.var 108 [.clo 87 [.agg [.d (.sl 4 (List.map e65 m0_HairBook.Hanks)),.d (.sl 3 (List.map e67 m0_HairBook.Horses)),jI m0_HairBook.Dark,jI m0_HairBook.Near,jI m0_HairBook.Match,.fmp (List.map m124_33 mf_1)]] []])] 3 (fr_ r):=by
 unfold g121 at h
 refine SCall.mkK Tryd.func121 c121 rfl rfl (by kernel_rfl) (fun Q_0 hR_0 hN_0=>?_)
 refine Sa ⟨[pR 1 0,pR 2 1,pR 3 2,pR 4 3],[(3,.var 187 [.yld]),(0,.var 119 (catV (cv61 o0_HairBook) [.fmp (List.map m124_33 mf)])),(1,.var 133 [.d (.fn 118)]),(2,.var 108 [.clo 87 [.agg [.d (.sl 4 (List.map e65 m0_HairBook.Hanks)),.d (.sl 3 (List.map e67 m0_HairBook.Horses)),jI m0_HairBook.Dark,jI m0_HairBook.Near,jI m0_HairBook.Match,.fmp (List.map m124_33 mf_1)]] []])],4,(fr_ s_),[],3⟩ ?_
 refine Sa ⟨[pR 1 0,pR 2 1,pR 3 2,pR 4 3,pR 5 4],[(4,.var 187 [.d (.nilFn)]),(3,.var 187 [.yld]),(0,.var 119 (catV (cv61 o0_HairBook) [.fmp (List.map m124_33 mf)])),(1,.var 133 [.d (.fn 118)]),(2,.var 108 [.clo 87 [.agg [.d (.sl 4 (List.map e65 m0_HairBook.Hanks)),.d (.sl 3 (List.map e67 m0_HairBook.Horses)),jI m0_HairBook.Dark,jI m0_HairBook.Near,jI m0_HairBook.Match,.fmp (List.map m124_33 mf_1)]] []])],5,(fr_ s_),[],3⟩ ?_
 refine Sa ⟨[pR 5 4],[(4,.var 187 [.clo 122 [] [.ptr 0 0,.ptr 3 0,.ptr 1 0,.ptr 2 0,.ptr 4 0]]),(3,.var 187 [.yld]),(0,.var 119 (catV (cv61 o0_HairBook) [.fmp (List.map m124_33 mf)])),(1,.var 133 [.d (.fn 118)]),(2,.var 108 [.clo 87 [.agg [.d (.sl 4 (List.map e65 m0_HairBook.Hanks)),.d (.sl 3 (List.map e67 m0_HairBook.Horses)),jI m0_HairBook.Dark,jI m0_HairBook.Near,jI m0_HairBook.Match,.fmp (List.map m124_33 mf_1)]] []])],5,(fr_ s_),[],3⟩ ?_
 refine AW.drw fokW ?_
 refine aX 1 ⟨[(7,.clo 122 [] [.ptr 0 0,.ptr 3 0,.ptr 1 0,.ptr 2 0,.ptr 4 0])],[(4,.var 187 [.clo 122 [] [.ptr 0 0,.ptr 3 0,.ptr 1 0,.ptr 2 0,.ptr 4 0]]),(3,.var 187 [.yld]),(0,.var 119 (catV (cv61 o0_HairBook) [.fmp (List.map m124_33 mf)])),(1,.var 133 [.d (.fn 118)]),(2,.var 108 [.clo 87 [.agg [.d (.sl 4 (List.map e65 m0_HairBook.Hanks)),.d (.sl 3 (List.map e67 m0_HairBook.Horses)),jI m0_HairBook.Dark,jI m0_HairBook.Near,jI m0_HairBook.Match,.fmp (List.map m124_33 mf_1)]] []])],5,(fr_ s_),[],3⟩ ?_
 obtain ⟨r0,hx_2,h⟩:=bsome h
 refine r_call trivial rfl (k117 _ hx_2) rfl rfl ?_
 obtain ⟨⟨r0_7,s_5⟩,hx_3,h⟩:=bsome h
 refine r_callvS (zr:=[]) [0,3,1,2,4] trivial rfl (.clo _ _ _) (by kernel_rfl) rfl (k122 fr_ c_ hc_ 1000 ([]:(List Int)) r0 o0_HairBook mf m0_HairBook mf_1 s_ _ hx_3) ⟨rfl,rfl,rfl,rfl,rfl,trivial⟩ rfl rfl ⟨(.nil 1),.refl _,.refl _,.refl _,.refl _,.refl _,.refl _,trivial⟩ rfl rfl rfl ?_
 refine Fi ⟨[],[(0,.var 119 (catV (cv61 o0_HairBook) [.fmp (List.map m124_33 mf)])),(1,.var 133 [.d (.fn 118)]),(2,.var 108 [.clo 87 [.agg [.d (.sl 4 (List.map e65 m0_HairBook.Hanks)),.d (.sl 3 (List.map e67 m0_HairBook.Horses)),jI m0_HairBook.Dark,jI m0_HairBook.Near,jI m0_HairBook.Match,.fmp (List.map m124_33 mf_1)]] []])],5,(fr_ s_5),[],3⟩ ?_
 obtain rfl:=Option.some.inj h
 exact hN_0 _ (retX .nil (.refl _) rfl (by kernel_rfl) (by kernel_rfl))
def g84_r5:((List Int)×(Nat→Int))→(Unit)→Option (Ctl (Unit) (Unit)):=fun (a,a1) _=>some (.brk ())
def g84 (b_HairBook:HairBook) (mf:List (Hair_dye×Span)):Option Bool:=(g79).bind fun _=>(g86 b_HairBook mf b_HairBook mf).bind fun (o0_HairBook,mf1)=>(g121 (fun a a1 s=>rndC g84_r5 (a,a1) s) o0_HairBook mf1 b_HairBook mf (.next ())).bind fun out_5=>match out_5 with | .next _=>some false | .brk _=>some true
theorem k84 (b_HairBook:HairBook) (mf:List (Hair_dye×Span)) (r:Bool) (h:g84 b_HairBook mf=some r):SCall Tryd.prog Gs 84 [.agg [.d (.sl 4 (List.map e65 b_HairBook.Hanks)),.d (.sl 3 (List.map e67 b_HairBook.Horses)),jI b_HairBook.Dark,jI b_HairBook.Near,jI b_HairBook.Match,.fmp (List.map m124_33 mf)]] [] 0 Fr.emp (.d (.bool r)) [] 0 Fr.emp:=by
 unfold g84 at h
 refine SCall.mkK Tryd.func84 c84 rfl rfl (by kernel_rfl) (fun Q_0 hR_0 hN_0=>?_)
 refine Sa (sT [pR 1 0,pR 2 1] [(1,.var 4 [.d (.bool false)]),(0,.var 119 (catV (cv61 b_HairBook) [.fmp (List.map m124_33 mf)]))] 2 0) ?_
 refine AW.seqK (fun K_1 hK_1=>?_)
 refine AW.sdrwK fokW (fun Q_2 hQ_2=>?_)
 refine aX 1 (sT [pR 1 0,pR 2 1,(3,.agg [.d (.sl 4 (List.map e65 b_HairBook.Hanks)),.d (.sl 3 (List.map e67 b_HairBook.Horses)),jI b_HairBook.Dark,jI b_HairBook.Near,jI b_HairBook.Match,.fmp (List.map m124_33 mf)])] [(1,.var 4 [.d (.bool false)]),(0,.var 119 (catV (cv61 b_HairBook) [.fmp (List.map m124_33 mf)]))] 2 0) ?_
 obtain ⟨⟨⟩,hx_3,h⟩:=bsome h
 refine r_call trivial rfl (k79 _ hx_3) rfl rfl ?_
 refine aX 2 (sT [pR 2 1,(3,.agg [.d (.sl 4 (List.map e65 b_HairBook.Hanks)),.d (.sl 3 (List.map e67 b_HairBook.Horses)),jI b_HairBook.Dark,jI b_HairBook.Near,jI b_HairBook.Match,.fmp (List.map m124_33 mf)]),(4,.agg [.d (.fn 118)]),(6,.clo 87 [.agg [.d (.sl 4 (List.map e65 b_HairBook.Hanks)),.d (.sl 3 (List.map e67 b_HairBook.Horses)),jI b_HairBook.Dark,jI b_HairBook.Near,jI b_HairBook.Match,.fmp (List.map m124_33 mf)]] [])] [(1,.var 4 [.d (.bool false)]),(0,.var 119 (catV (cv61 b_HairBook) [.fmp (List.map m124_33 mf)]))] 2 0) ?_
 obtain ⟨⟨o0_HairBook,mf1⟩,hx_4,h⟩:=bsome h
 refine r_callS (zr:=[]) [] trivial rfl (k86 b_HairBook mf b_HairBook mf _ hx_4) trivial rfl rfl ⟨.refl _,.refl _,.refl _,trivial⟩ rfl rfl rfl ?_
 refine Fi (sT [pR 2 1,(7,.clo 121 [] [.ptr 2 0,.ptr 3 0,.ptr 4 0])] [(2,.var 119 (catV (cv61 o0_HairBook) [.fmp (List.map m124_33 mf1)])),(3,.var 133 [.d (.fn 118)]),(4,.var 108 [.clo 87 [.agg [.d (.sl 4 (List.map e65 b_HairBook.Hanks)),.d (.sl 3 (List.map e67 b_HairBook.Horses)),jI b_HairBook.Dark,jI b_HairBook.Near,jI b_HairBook.Match,.fmp (List.map m124_33 mf)]] []]),(1,.var 4 [.d (.bool false)])] 5 0) ?_
 refine hQ_2 _ ?_
 refine AW.block ?_
 obtain ⟨out_5,hx_5,h⟩:=bsome h
 refine AW.rfX (fun (_:Unit)=>[(5,.dm),(1,.var 4 [.d (.bool false)])]) (fun (_:Unit)=>[(5,.dm),(1,.var 4 [.d (.bool true)])]) (fun _=>some .ret) g84_r5 (fun (⟨a,a1⟩:(List Int)×(Nat→Int))=>[.d (.sl 1 (List.map e3 a)),.agg [jI (a1 0),jI (a1 1),jI (a1 2),jI (a1 3),jI (a1 4)]]) (s0:=()) (out:=out_5) [pR 2 1] [(1,.var 4 [.d (.bool false)])] [2,3,4] rfl (.clo _ _ _) (by kernel_rfl) (by kernel_rfl) (fun fr_ hY_5=>k121 fr_ _ (fun a a1 s s2 b h=>hY_5 (a,a1) s s2 b h) o0_HairBook mf1 b_HairBook mf (.next ()) _ hx_5) (by kernel_rfl) ⟨rfl,rfl,rfl,trivial⟩ rfl ⟨rfl,rfl⟩ rfl rfl (fun _=>rfl) (fun _=>rfl) (fun a_5 s_5 c_5 h l_5=>?_) (fun _=>rfl) ?_
 ·obtain ⟨a,a1⟩:=a_5
  unfold g84_r5 at h
  refine AW.skip ?_
  refine AW.block ?_
  refine AW.sa (fokR l_5) [] (sT [pR 2 1] [(1,.var 4 [.d (.bool true)]),(5,.dm)] 6 6) (by kernel_rfl) ?_
  refine AW.ret ?_
  obtain rfl:=Option.some.inj h
  exact ⟨(sT [] [(5,.dm),(1,.var 4 [.d (.bool true)])] 6 6),Can.kp (by kernel_rfl),rdX trivial rfl (by kernel_rfl) (by kernel_rfl)⟩
 ·rcases out_5 with _ | _
  ·refine hK_1 _ ?_
   refine Sa ⟨[pR 2 1],[(1,.var 4 [.d (.bool false)]),(5,.dm)],6,Fr.emp,[5],0⟩ ?_
   obtain rfl:=Option.some.inj h
   exact rT hR_0 (.cons (.one rfl rfl rfl) .nil)
  ·obtain rfl:=Option.some.inj h
   exact hR_0 _ (retX (.cons (.one rfl rfl rfl) .nil) (.refl _) rfl (by kernel_rfl) (by kernel_rfl))
def g137 (x:Int):Option Bool:=some (decide (x≠x))
theorem k137 (x:Int) (r:Bool) (h:g137 x=some r):SCall Tryd.prog Gs 137 [jI x] [] 0 Fr.emp (.d (.bool r)) [] 0 Fr.emp:=by
 unfold g137 at h
 refine SCall.mkK Tryd.func137 c137 rfl rfl (by kernel_rfl) (fun Q_0 hR_0 hN_0=>?_)
 refine Sa (sT [(0,jI x)] [] 0 0) ?_
 refine Sa (sT [(2,.d (.bool (decide (x≠x))))] [] 0 0) ?_
 obtain rfl:=Option.some.inj h
 exact rT hR_0 (.cons (.tmp rfl) .nil)
def g120 (x:Int) (y:Int):Option Int:=(g137 x).bind fun r0=>(g137 y).bind fun r0_1=>bif r0 then (bif r0_1 then (some 0) else (some (-1))) else (bif r0_1 then (some 1) else (bif (decide (x<y)) then (some (-1)) else (bif (decide (y<x)) then (some 1) else (some 0))))
theorem k120 (x:Int) (y:Int) (r:Int) (h:g120 x y=some r):SCall Tryd.prog Gs 120 [jI x,jI y] [] 0 Fr.emp (jI r) [] 0 Fr.emp:=by
 unfold g120 at h
 refine SCall.mkK Tryd.func120 c120 rfl rfl (by kernel_rfl) (fun Q_0 hR_0 hN_0=>?_)
 refine Sa (sT [(0,jI x),(1,jI y)] [] 0 0) ?_
 refine AW.srwK (fun Q_1 hQ_1=>?_)
 refine Au 1 (sT [(0,jI x),(1,jI y),(7,jI x)] [] 0 0) ?_
 obtain ⟨r0,hx_2,h⟩:=bsome h
 refine rC (k137 x _ hx_2) ?_
 refine Au 1 (sT [(0,jI x),(1,jI y),(5,.d (.bool r0))] [] 0 0) ?_
 refine RW.nil (hQ_1 _ ?_)
 refine AW.srwK (fun Q_3 hQ_3=>?_)
 refine Au 1 (sT [(0,jI x),(1,jI y),(5,.d (.bool r0)),(9,jI y)] [] 0 0) ?_
 obtain ⟨r0_1,hx_4,h⟩:=bsome h
 refine rC (k137 y _ hx_4) ?_
 refine Au 1 (sT [(0,jI x),(1,jI y),(5,.d (.bool r0)),(6,.d (.bool r0_1))] [] 0 0) ?_
 refine RW.nil (hQ_3 _ ?_)
 refine AW.seqK (fun K_5 hK_5=>?_)
 refine Sa (sT [(0,jI x),(1,jI y),(6,.d (.bool r0_1)),(11,.d (.bool r0))] [] 0 0) ?_
 refine AW.cond rfl (fun hb_6=>?_) (fun hb_6=>?_)
 ·have h:=ifT hb_6 h
  refine AW.seqK (fun K_7 hK_7=>?_)
  refine Sa (sT [(12,.d (.bool r0_1))] [] 0 0) ?_
  refine AW.cond rfl (fun hb_8=>?_) (fun hb_8=>?_)
  ·have h:=ifT hb_8 h
   refine Sa (sT [(4,jI 0)] [] 0 0) ?_
   obtain rfl:=Option.some.inj h
   exact rT hR_0 (.cons (.tmp rfl) .nil)
  ·have h:=ifF hb_8 h
   refine AW.skip (hK_7 _ ?_)
   refine Sa (sT [(4,jI (-1))] [] 0 0) ?_
   obtain rfl:=Option.some.inj h
   exact rT hR_0 (.cons (.tmp rfl) .nil)
 ·have h:=ifF hb_6 h
  refine AW.skip (hK_5 _ ?_)
  refine AW.seqK (fun K_9 hK_9=>?_)
  refine Sa (sT [(0,jI x),(1,jI y),(13,.d (.bool r0_1))] [] 0 0) ?_
  refine AW.cond rfl (fun hb_10=>?_) (fun hb_10=>?_)
  ·have h:=ifT hb_10 h
   refine Sa (sT [(4,jI 1)] [] 0 0) ?_
   obtain rfl:=Option.some.inj h
   exact rT hR_0 (.cons (.tmp rfl) .nil)
  ·have h:=ifF hb_10 h
   refine AW.skip (hK_9 _ ?_)
   refine AW.seqK (fun K_11 hK_11=>?_)
   refine Sa (sT [(0,jI x),(1,jI y),(16,.d (.bool (decide (x<y))))] [] 0 0) ?_
   refine AW.cond rfl (fun hb_12=>?_) (fun hb_12=>?_)
   ·have h:=ifT hb_12 h
    refine Sa (sT [(4,jI (-1))] [] 0 0) ?_
    obtain rfl:=Option.some.inj h
    exact rT hR_0 (.cons (.tmp rfl) .nil)
   ·have h:=ifF hb_12 h
    refine AW.skip (hK_11 _ ?_)
    refine AW.seqK (fun K_13 hK_13=>?_)
    refine Sa (sT [(19,.d (.bool (decide (y<x))))] [] 0 0) ?_
    refine AW.cond rfl (fun hb_14=>?_) (fun hb_14=>?_)
    ·have h:=ifT hb_14 h
     refine Sa (sT [(4,jI 1)] [] 0 0) ?_
     obtain rfl:=Option.some.inj h
     exact rT hR_0 (.cons (.tmp rfl) .nil)
    ·have h:=ifF hb_14 h
     refine AW.skip (hK_13 _ ?_)
     refine Sa (sT [(4,jI 0)] [] 0 0) ?_
     obtain rfl:=Option.some.inj h
     exact rT hR_0 (.cons (.tmp rfl) .nil)
def g83_3 (s2:(List Int)):Int→Int→Unit→Option (Ctl (Unit) (Int)):=fun v p _=>bif (decide ((s2.length:Int)≤v)) then (some (.brk 1)) else ((ixL s2 v).bind fun p1=>(g120 p p1).bind fun r0_7=>bif (decide (r0_7≠0)) then (some (.brk r0_7)) else (some (.next ())))
def g83 (s1:(List Int)) (s2:(List Int)):Option Int:=bindC (eachC (g83_3 s2) s1 0 ()) fun _=>bif (decide ((s1.length:Int)<(s2.length:Int))) then (some (-1)) else (some 0)
theorem k83 (s1:(List Int)) (s2:(List Int)) (r:Int) (h:g83 s1 s2=some r):SCall Tryd.prog Gs 83 [.d (.sl 1 (List.map e3 s1)),.d (.sl 1 (List.map e3 s2))] [] 0 Fr.emp (jI r) [] 0 Fr.emp:=by
 unfold g83 at h
 refine SCall.mkK Tryd.func83 c83 rfl rfl (by kernel_rfl) (fun Q_0 hR_0 hN_0=>?_)
 refine Sa (sT [(0,.d (.sl 1 (List.map e3 s1))),(1,.d (.sl 1 (List.map e3 s2)))] [] 0 0) ?_
 refine AW.seqK fun K_1 hK_1=>AW.srwK fun Q_2 hQ_2=>?_
 refine Au 1 (sT [(0,.d (.sl 1 (List.map e3 s1))),(1,.d (.sl 1 (List.map e3 s2))),(9,.d (.sl 1 (List.map e3 s1)))] [] 0 0) ?_
 refine rL rfl ?_
 refine Au 1 (sT [(0,.d (.sl 1 (List.map e3 s1))),(1,.d (.sl 1 (List.map e3 s2))),(9,.d (.sl 1 (List.map e3 s1))),(10,jI (s1.length:Int)),(11,jI 0)] [] 0 0) ?_
 refine RW.nil (hQ_2 _ ?_)
 refine AW.block ?_
 refine AW.sln (t:=0) rfl (fun hN_3=>?_)
 rw [List.length_map] at hN_3
 obtain ⟨out_3,hx_3,hk_3⟩:=bsomeC h
 refine AW.evCK (fun (v:Int) (_:Unit)=>(sT [(0,.d (.sl 1 (List.map e3 s1))),(1,.d (.sl 1 (List.map e3 s2))),(9,.d (.sl 1 (List.map e3 s1))),(10,jI (s1.length:Int)),(11,jI v)] [] 0 0)) (g83_3 s2) hx_3 (Can.kp (by kernel_rfl)) (fun v p s_3 hi_3 hl_3 hp_3 c_3 h hb_3 K_3 hK_3=>?_) (fun v s_3 hi_3 hl_3 hout=>?_)
 ·unfold g83_3 at h
  refine Sa (sT [(0,.d (.sl 1 (List.map e3 s1))),(1,.d (.sl 1 (List.map e3 s2))),(9,.d (.sl 1 (List.map e3 s1))),(10,jI (s1.length:Int)),(11,jI v),(12,.d (.bool (decide (v<(s1.length:Int)))))] [] 0 0) ?_
  refine AW.seqK (fun K_4 hK_4=>?_)
  refine AW.cond rfl (fun hb_5=>?_) (fun hb_5=>False.elim (by have:=of_decide_eq_false hb_5;omega))
  refine AW.skip (hK_4 _ ?_)
  refine AW.seqK (fun K_6 hK_6=>?_)
  refine AW.block ?_
  refine AW.srwK (fun Q_7 hQ_7=>?_)
  refine Au 1 (sT [(0,.d (.sl 1 (List.map e3 s1))),(1,.d (.sl 1 (List.map e3 s2))),(9,.d (.sl 1 (List.map e3 s1))),(10,jI (s1.length:Int)),(11,jI v),(13,jI v)] [] 0 0) ?_
  refine RW.one fokW (r_iaD trivial rfl rfl hi_3 (row:=e3 p) (mapget hp_3) (r_end ?_))
  refine Au 3 (sT [(0,.d (.sl 1 (List.map e3 s1))),(1,.d (.sl 1 (List.map e3 s2))),(5,jI v),(6,jI p),(9,.d (.sl 1 (List.map e3 s1))),(10,jI (s1.length:Int)),(11,jI v)] [] 0 0) ?_
  refine RW.nil (hQ_7 _ ?_)
  refine AW.seqK fun K_8 hK_8=>AW.srwK fun Q_9 hQ_9=>?_
  refine Au 2 (sT [(0,.d (.sl 1 (List.map e3 s1))),(1,.d (.sl 1 (List.map e3 s2))),(5,jI v),(6,jI p),(9,.d (.sl 1 (List.map e3 s1))),(10,jI (s1.length:Int)),(11,jI v),(16,jI v),(17,.d (.sl 1 (List.map e3 s2)))] [] 0 0) ?_
  refine rL rfl ?_
  refine Au 1 (sT [(0,.d (.sl 1 (List.map e3 s1))),(1,.d (.sl 1 (List.map e3 s2))),(5,jI v),(6,jI p),(9,.d (.sl 1 (List.map e3 s1))),(10,jI (s1.length:Int)),(11,jI v),(19,.d (.bool (decide ((s2.length:Int)≤v))))] [] 0 0) ?_
  refine RW.nil (hQ_9 _ ?_)
  refine AW.cond rfl (fun hb_10=>?_) (fun hb_10=>?_)
  ·have h:=ifT hb_10 h
   refine Sa (sT [(4,jI 1)] [] 0 0) ?_
   obtain rfl:=Option.some.inj h
   have e_1:=hb_3 _ rfl
   subst e_1
   obtain rfl:=Aft.bk hk_3
   exact rT hR_0 (.cons (.tmp rfl) .nil)
  ·have h:=ifF hb_10 h
   refine AW.skip (hK_8 _ ?_)
   refine AW.srwK (fun Q_11 hQ_11=>?_)
   refine Au 2 (sT [(0,.d (.sl 1 (List.map e3 s1))),(1,.d (.sl 1 (List.map e3 s2))),(6,jI p),(9,.d (.sl 1 (List.map e3 s1))),(10,jI (s1.length:Int)),(11,jI v),(20,.d (.sl 1 (List.map e3 s2))),(21,jI v)] [] 0 0) ?_
   obtain ⟨p1,hv_12,h⟩:=bsome h
   refine RW.one fokW (r_iaD trivial rfl rfl (ixL_ok hv_12).1 (row:=e3 p1) (mapget (ixL_ok hv_12).2) (r_end ?_))
   refine Au 2 (sT [(0,.d (.sl 1 (List.map e3 s1))),(1,.d (.sl 1 (List.map e3 s2))),(6,jI p),(7,jI p1),(9,.d (.sl 1 (List.map e3 s1))),(10,jI (s1.length:Int)),(11,jI v)] [] 0 0) ?_
   refine RW.nil (hQ_11 _ ?_)
   refine AW.srwK (fun Q_13 hQ_13=>?_)
   refine Au 2 (sT [(0,.d (.sl 1 (List.map e3 s1))),(1,.d (.sl 1 (List.map e3 s2))),(9,.d (.sl 1 (List.map e3 s1))),(10,jI (s1.length:Int)),(11,jI v),(24,jI p),(25,jI p1)] [] 0 0) ?_
   obtain ⟨r0_7,hx_14,h⟩:=bsome h
   refine rC (k120 p p1 _ hx_14) ?_
   refine Au 1 (sT [(0,.d (.sl 1 (List.map e3 s1))),(1,.d (.sl 1 (List.map e3 s2))),(8,jI r0_7),(9,.d (.sl 1 (List.map e3 s1))),(10,jI (s1.length:Int)),(11,jI v)] [] 0 0) ?_
   refine RW.nil (hQ_13 _ ?_)
   refine Sa (sT [(0,.d (.sl 1 (List.map e3 s1))),(1,.d (.sl 1 (List.map e3 s2))),(8,jI r0_7),(9,.d (.sl 1 (List.map e3 s1))),(10,jI (s1.length:Int)),(11,jI v),(28,.d (.bool (decide (r0_7≠0))))] [] 0 0) ?_
   refine AW.cond rfl (fun hb_15=>?_) (fun hb_15=>?_)
   ·have h:=ifT hb_15 h
    refine Sa (sT [(4,jI r0_7)] [] 0 0) ?_
    obtain rfl:=Option.some.inj h
    have e_1:=hb_3 _ rfl
    subst e_1
    obtain rfl:=Aft.bk hk_3
    exact rT hR_0 (.cons (.tmp rfl) .nil)
   ·have h:=ifF hb_15 h
    refine AW.skip (hK_6 _ ?_)
    refine Ra (sT [(0,.d (.sl 1 (List.map e3 s1))),(1,.d (.sl 1 (List.map e3 s2))),(9,.d (.sl 1 (List.map e3 s1))),(10,jI (s1.length:Int)),(11,jI (wr (v+1)))] [] 0 0) ?_
    obtain rfl:=Option.some.inj h
    have ew:wr (v+1)=v+1:=inext (N:=(s1.length:Int)) (by omega) (by omega) (by omega)
    rw [ew]
    exact hK_3 _ _ rfl (Can.kp (by kernel_rfl))
 ·subst hout
  have h:=Aft.nx hk_3
  refine Sa (sT [(0,.d (.sl 1 (List.map e3 s1))),(1,.d (.sl 1 (List.map e3 s2))),(9,.d (.sl 1 (List.map e3 s1))),(10,jI (s1.length:Int)),(11,jI v),(12,.d (.bool (decide (v<(s1.length:Int)))))] [] 0 0) ?_
  refine AW.seqK (fun K_16 hK_16=>?_)
  refine AW.cond rfl (fun hb_17=>False.elim (by have:=of_decide_eq_true hb_17;omega)) (fun hb_17=>?_)
  refine AW.exit ?_
  refine hK_1 _ ?_
  refine AW.seqK fun K_18 hK_18=>AW.srwK fun Q_19 hQ_19=>?_
  refine Au 1 (sT [(1,.d (.sl 1 (List.map e3 s2))),(31,.d (.sl 1 (List.map e3 s1)))] [] 0 0) ?_
  refine rL rfl ?_
  refine Au 1 (sT [(32,jI (s1.length:Int)),(33,.d (.sl 1 (List.map e3 s2)))] [] 0 0) ?_
  refine rL rfl ?_
  refine Au 1 (sT [(35,.d (.bool (decide ((s1.length:Int)<(s2.length:Int)))))] [] 0 0) ?_
  refine RW.nil (hQ_19 _ ?_)
  refine AW.cond rfl (fun hb_20=>?_) (fun hb_20=>?_)
  ·have h:=ifT hb_20 h
   refine Sa (sT [(4,jI (-1))] [] 0 0) ?_
   obtain rfl:=Option.some.inj h
   exact rT hR_0 (.cons (.tmp rfl) .nil)
  ·have h:=ifF hb_20 h
   refine AW.skip (hK_18 _ ?_)
   refine Sa (sT [(4,jI 0)] [] 0 0) ?_
   obtain rfl:=Option.some.inj h
   exact rT hR_0 (.cons (.tmp rfl) .nil)
def g32_14 (v1:Int):Int→HairHorse→((List Int)×(List HairHorse))→Option ((List Int)×(List HairHorse)):=fun v2 p (l,l1)=>(must (decide (0≤v2))).bind fun _=>bif (decide ((bAnd (shr64 v1 v2) 1)=1)) then ((appL 8 l [v2]).bind fun l2=>some (l2,l1)) else ((appL 24 l1 [p]).bind fun l3=>some (l,l3))
def g32_8 (x:HairBook):Int→((List Int)×Bool)→Option ((List Int)×Bool):=fun v1 (best1,found1)=>(eachS (g32_14 v1) x.Horses 0 (([],[]):(List Int)×(List HairHorse))).bind fun (l,l1)=>(bif found1 then (bif (decide ((best1.length:Int)<(l.length:Int))) then (some true) else (bif (decide ((l.length:Int)=(best1.length:Int))) then ((g83 l best1).bind fun r0_3=>some (decide (0≤r0_3))) else (some false))) else (some false)).bind fun v3=>bif v3 then (some (best1,found1)) else ((g81 (HairBook.mk x.Hanks l1 x.Dark x.Near x.Match)).bind fun (r0_HairBook,mf)=>(g84 r0_HairBook mf).bind fun r0_1=>bif r0_1 then (some (l,true)) else (some (best1,found1)))
def g32 (x:HairBook):Option ((List Int)×Int):=(g35 x).bind fun r0_9=>bif (decide (r0_9≠0)) then (some ([],r0_9)) else ((must (decide (0≤(x.Horses.length:Int)))).bind fun _=>(must (decide ((shl64 1 (x.Horses.length:Int))≤9223372036854775807))).bind fun _=>(forS (g32_8 x) ((((shl64 1 (x.Horses.length:Int)):Int) - 0).toNat) 0 (([],false):(List Int)×Bool)).bind fun (best1,found1)=>(slcL best1 0 (best1.length:Int)).bind fun l4=>some (l4,0))
theorem k32 (x:HairBook) (r:(List Int)×Int) (h:g32 x=some r):SCall Tryd.prog Gs 32 [.agg [.d (.sl 4 (List.map e65 x.Hanks)),.d (.sl 3 (List.map e67 x.Horses)),jI x.Dark,jI x.Near,jI x.Match]] [] 0 Fr.emp (match r with | (r0_2,r1_1)=>.tup [.d (.sl 1 (List.map e3 r0_2)),jI r1_1]) [] 0 Fr.emp:=by
 unfold g32 at h
 refine SCall.mkK Tryd.func32 c32 rfl rfl (by kernel_rfl) (fun Q_0 hR_0 hN_0=>?_)
 refine Sa (sT [pR 1 0] [(0,.var 61 (cv61 x))] 1 0) ?_
 refine AW.seqK fun K_1 hK_1=>AW.srwK fun Q_2 hQ_2=>?_
 refine Au 1 (sT [pR 1 0,(12,.agg [.d (.sl 4 (List.map e65 x.Hanks)),.d (.sl 3 (List.map e67 x.Horses)),jI x.Dark,jI x.Near,jI x.Match])] [(0,.var 61 (cv61 x))] 1 0) ?_
 obtain ⟨r0_9,hx_3,h⟩:=bsome h
 refine rC (k35 x _ hx_3) ?_
 refine Au 1 (sT [pR 1 0,(4,jI r0_9)] [(0,.var 61 (cv61 x))] 1 0) ?_
 refine RW.nil (hQ_2 _ ?_)
 refine Sa (sT [pR 1 0,(4,jI r0_9),(15,.d (.bool (decide (r0_9≠0))))] [(0,.var 61 (cv61 x))] 1 0) ?_
 refine AW.cond rfl (fun hb_4=>?_) (fun hb_4=>?_)
 ·have h:=ifT hb_4 h
  refine Sa (sT [(2,.d (.nilSl)),(3,jI r0_9)] [] 1 0) ?_
  obtain rfl:=Option.some.inj h
  exact AW.ret (hR_0 _ (retX (.cons (.tmp rfl) (.cons (.tmp rfl) .nil)) (Frz.tup_of ⟨.nil 1,.refl _,trivial⟩) rfl (by kernel_rfl) (by kernel_rfl)))
 ·have h:=ifF hb_4 h
  refine AW.skip (hK_1 _ ?_)
  refine Sa (sT [pR 1 0,(5,.d (.nilSl))] [(0,.var 61 (cv61 x))] 1 0) ?_
  refine Sa (sT [pR 1 0,(5,.d (.nilSl)),(6,.d (.bool false))] [(0,.var 61 (cv61 x))] 1 0) ?_
  refine AW.seqK fun K_5 hK_5=>AW.srwK fun Q_6 hQ_6=>?_
  refine Au 2 (sT [pR 1 0,(5,.d (.nilSl)),(6,.d (.bool false)),(18,.d (.sl 3 (List.map e67 x.Horses)))] [(0,.var 61 (cv61 x))] 1 0) ?_
  refine rL rfl ?_
  obtain ⟨_,hv_7,h⟩:=bsome h
  refine RW.one fokW (r_sh trivial rfl rfl (shl64_ok (of_decide_eq_true (must_ok hv_7))) (r_end ?_))
  refine Au 1 (sT [pR 1 0,(5,.d (.nilSl)),(6,.d (.bool false)),(20,jI (shl64 1 (x.Horses.length:Int))),(21,jI 0)] [(0,.var 61 (cv61 x))] 1 0) ?_
  refine RW.nil (hQ_6 _ ?_)
  refine AW.block ?_
  obtain ⟨_,hN_8,h⟩:=bsome h
  have hN_8:=of_decide_eq_true (must_ok hN_8)
  obtain ⟨out_8,hx_8,h⟩:=bsome h
  refine AW.lpSK (fun (v1:Int) (⟨best1,found1⟩:(List Int)×Bool)=>(sT [pR 1 0,(5,.d (.sl 1 (List.map e3 best1))),(6,.d (.bool found1)),(20,jI (shl64 1 (x.Horses.length:Int))),(21,jI v1)] [(0,.var 61 (cv61 x))] 1 0)) (g32_8 x) ((shl64 1 (x.Horses.length:Int))) hx_8 (Can.trans (Can.wkE 5 1 rfl) (Can.kp (by kernel_rfl))) (fun v1 s_8 hi_8 hl_8 c_8 h K_8 hK_8=>?_) (fun v1 s_8 hi_8 hl_8 hout=>?_)
  ·obtain ⟨best1,found1⟩:=s_8
   unfold g32_8 at h
   refine Sa (sT [pR 1 0,(5,.d (.sl 1 (List.map e3 best1))),(6,.d (.bool found1)),(20,jI (shl64 1 (x.Horses.length:Int))),(21,jI v1),(22,.d (.bool (decide (v1<(shl64 1 (x.Horses.length:Int))))))] [(0,.var 61 (cv61 x))] 1 0) ?_
   refine AW.seqK (fun K_9 hK_9=>?_)
   refine AW.cond rfl (fun hb_10=>?_) (fun hb_10=>False.elim (by have:=of_decide_eq_false hb_10;omega))
   refine AW.skip (hK_9 _ ?_)
   refine AW.seqK (fun K_11 hK_11=>?_)
   refine AW.block ?_
   refine Sa (sT [pR 1 0,(5,.d (.sl 1 (List.map e3 best1))),(6,.d (.bool found1)),(7,jI v1),(20,jI (shl64 1 (x.Horses.length:Int))),(21,jI v1)] [(0,.var 61 (cv61 x))] 1 0) ?_
   refine Sa (sT [pR 1 0,(5,.d (.sl 1 (List.map e3 best1))),(6,.d (.bool found1)),(7,jI v1),pR 8 1,(20,jI (shl64 1 (x.Horses.length:Int))),(21,jI v1)] [(1,.var 61 (cv61 x)),(0,.var 61 (cv61 x))] 2 0) ?_
   refine Sa (sT [pR 1 0,(5,.d (.sl 1 (List.map e3 best1))),(6,.d (.bool found1)),(7,jI v1),pR 8 1,(20,jI (shl64 1 (x.Horses.length:Int))),(21,jI v1)] [(1,.var 61 [.d (.sl 4 (List.map e65 x.Hanks)),.d (.nilSl),jI x.Dark,jI x.Near,jI x.Match]),(0,.var 61 (cv61 x))] 2 0) ?_
   refine Sa (sT [pR 1 0,(5,.d (.sl 1 (List.map e3 best1))),(6,.d (.bool found1)),(7,jI v1),pR 8 1,(9,.d (.nilSl)),(20,jI (shl64 1 (x.Horses.length:Int))),(21,jI v1)] [(1,.var 61 [.d (.sl 4 (List.map e65 x.Hanks)),.d (.nilSl),jI x.Dark,jI x.Near,jI x.Match]),(0,.var 61 (cv61 x))] 2 0) ?_
   refine AW.seqK fun K_12 hK_12=>AW.srwK fun Q_13 hQ_13=>?_
   refine Au 2 (sT [pR 1 0,(5,.d (.sl 1 (List.map e3 best1))),(6,.d (.bool found1)),(7,jI v1),pR 8 1,(9,.d (.nilSl)),(20,jI (shl64 1 (x.Horses.length:Int))),(21,jI v1),(27,.d (.sl 3 (List.map e67 x.Horses)))] [(1,.var 61 [.d (.sl 4 (List.map e65 x.Hanks)),.d (.nilSl),jI x.Dark,jI x.Near,jI x.Match]),(0,.var 61 (cv61 x))] 2 0) ?_
   refine rL rfl ?_
   refine Au 1 (sT [pR 1 0,(5,.d (.sl 1 (List.map e3 best1))),(6,.d (.bool found1)),(7,jI v1),pR 8 1,(9,.d (.nilSl)),(20,jI (shl64 1 (x.Horses.length:Int))),(21,jI v1),(27,.d (.sl 3 (List.map e67 x.Horses))),(28,jI (x.Horses.length:Int)),(29,jI 0)] [(1,.var 61 [.d (.sl 4 (List.map e65 x.Hanks)),.d (.nilSl),jI x.Dark,jI x.Near,jI x.Match]),(0,.var 61 (cv61 x))] 2 0) ?_
   refine RW.nil (hQ_13 _ ?_)
   refine AW.block ?_
   refine AW.sln (t:=27) rfl (fun hN_14=>?_)
   rw [List.length_map] at hN_14
   obtain ⟨out_14,hx_14,h⟩:=bsome h
   refine AW.evSK (fun (v2:Int) (⟨l,l1⟩:(List Int)×(List HairHorse))=>(sT [pR 1 0,(5,.d (.sl 1 (List.map e3 best1))),(6,.d (.bool found1)),(7,jI v1),pR 8 1,(9,.own 2 (List.map e3 l).length),(20,jI (shl64 1 (x.Horses.length:Int))),(21,jI v1),(27,.d (.sl 3 (List.map e67 x.Horses))),(28,jI (x.Horses.length:Int)),(29,jI v2)] [(1,.var 61 [.d (.sl 4 (List.map e65 x.Hanks)),.own 3 (List.map e67 l1).length,jI x.Dark,jI x.Near,jI x.Match]),(3,.row 67 3 (List.map e67 l1)),(2,.row 3 1 (List.map e3 l)),(0,.var 61 (cv61 x))] 4 0)) (g32_14 v1) hx_14 (Can.trans (Can.thawT 9 3 1 rfl rfl) (Can.trans (Can.thawH 1 1 61 67 3 rfl rfl rfl) (Can.kp (by kernel_rfl)))) (fun v2 p s_14 hi_14 hl_14 hp_14 c_14 h K_14 hK_14=>?_) (fun v2 s_14 hi_14 hl_14 hout=>?_)
   ·obtain ⟨l,l1⟩:=s_14
    unfold g32_14 at h
    refine Sa (sT [pR 1 0,(5,.d (.sl 1 (List.map e3 best1))),(6,.d (.bool found1)),(7,jI v1),pR 8 1,(9,.own 2 (List.map e3 l).length),(20,jI (shl64 1 (x.Horses.length:Int))),(21,jI v1),(27,.d (.sl 3 (List.map e67 x.Horses))),(28,jI (x.Horses.length:Int)),(29,jI v2),(30,.d (.bool (decide (v2<(x.Horses.length:Int)))))] [(1,.var 61 [.d (.sl 4 (List.map e65 x.Hanks)),.own 3 (List.map e67 l1).length,jI x.Dark,jI x.Near,jI x.Match]),(3,.row 67 3 (List.map e67 l1)),(2,.row 3 1 (List.map e3 l)),(0,.var 61 (cv61 x))] 4 0) ?_
    refine AW.seqK (fun K_15 hK_15=>?_)
    refine AW.cond rfl (fun hb_16=>?_) (fun hb_16=>False.elim (by have:=of_decide_eq_false hb_16;omega))
    refine AW.skip (hK_15 _ ?_)
    refine AW.seqK (fun K_17 hK_17=>?_)
    refine AW.block ?_
    refine AW.srwK (fun Q_18 hQ_18=>?_)
    refine Au 1 (sT [pR 1 0,(5,.d (.sl 1 (List.map e3 best1))),(6,.d (.bool found1)),(7,jI v1),pR 8 1,(9,.own 2 (List.map e3 l).length),(20,jI (shl64 1 (x.Horses.length:Int))),(21,jI v1),(27,.d (.sl 3 (List.map e67 x.Horses))),(28,jI (x.Horses.length:Int)),(29,jI v2),(31,jI v2)] [(1,.var 61 [.d (.sl 4 (List.map e65 x.Hanks)),.own 3 (List.map e67 l1).length,jI x.Dark,jI x.Near,jI x.Match]),(3,.row 67 3 (List.map e67 l1)),(2,.row 3 1 (List.map e3 l)),(0,.var 61 (cv61 x))] 4 0) ?_
    refine RW.one fokW (r_iaD trivial rfl rfl hi_14 (row:=e67 p) (mapget hp_14) (r_end ?_))
    refine Au 4 (sT [pR 1 0,(5,.d (.sl 1 (List.map e3 best1))),(6,.d (.bool found1)),(7,jI v1),pR 8 1,(9,.own 2 (List.map e3 l).length),(10,jI v2),pR 11 4,(20,jI (shl64 1 (x.Horses.length:Int))),(21,jI v1),(27,.d (.sl 3 (List.map e67 x.Horses))),(28,jI (x.Horses.length:Int)),(29,jI v2)] [(4,.var 67 [jI p.Mane,jI p.Tail,jI p.Shade]),(1,.var 61 [.d (.sl 4 (List.map e65 x.Hanks)),.own 3 (List.map e67 l1).length,jI x.Dark,jI x.Near,jI x.Match]),(3,.row 67 3 (List.map e67 l1)),(2,.row 3 1 (List.map e3 l)),(0,.var 61 (cv61 x))] 5 0) ?_
    refine RW.nil (hQ_18 _ ?_)
    refine AW.srwK (fun Q_19 hQ_19=>?_)
    refine Au 2 (sT [pR 1 0,(5,.d (.sl 1 (List.map e3 best1))),(6,.d (.bool found1)),(7,jI v1),pR 8 1,(9,.own 2 (List.map e3 l).length),(10,jI v2),pR 11 4,(20,jI (shl64 1 (x.Horses.length:Int))),(21,jI v1),(27,.d (.sl 3 (List.map e67 x.Horses))),(28,jI (x.Horses.length:Int)),(29,jI v2),(34,jI v1),(35,jI v2)] [(4,.var 67 [jI p.Mane,jI p.Tail,jI p.Shade]),(1,.var 61 [.d (.sl 4 (List.map e65 x.Hanks)),.own 3 (List.map e67 l1).length,jI x.Dark,jI x.Near,jI x.Match]),(3,.row 67 3 (List.map e67 l1)),(2,.row 3 1 (List.map e3 l)),(0,.var 61 (cv61 x))] 5 0) ?_
    obtain ⟨_,hv_20,h⟩:=bsome h
    refine RW.one fokW (r_sh trivial rfl rfl (shr64_ok (of_decide_eq_true (must_ok hv_20))) (r_end ?_))
    refine Au 2 (sT [pR 1 0,(5,.d (.sl 1 (List.map e3 best1))),(6,.d (.bool found1)),(7,jI v1),pR 8 1,(9,.own 2 (List.map e3 l).length),(10,jI v2),pR 11 4,(20,jI (shl64 1 (x.Horses.length:Int))),(21,jI v1),(27,.d (.sl 3 (List.map e67 x.Horses))),(28,jI (x.Horses.length:Int)),(29,jI v2),(38,.d (.bool (decide ((bAnd (shr64 v1 v2) 1)=1))))] [(4,.var 67 [jI p.Mane,jI p.Tail,jI p.Shade]),(1,.var 61 [.d (.sl 4 (List.map e65 x.Hanks)),.own 3 (List.map e67 l1).length,jI x.Dark,jI x.Near,jI x.Match]),(3,.row 67 3 (List.map e67 l1)),(2,.row 3 1 (List.map e3 l)),(0,.var 61 (cv61 x))] 5 0) ?_
    refine RW.nil (hQ_19 _ ?_)
    refine AW.cond rfl (fun hb_21=>?_) (fun hb_21=>?_)
    ·have h:=ifT hb_21 h
     refine AW.rw ?_
     refine Au 3 (sT [pR 1 0,(5,.d (.sl 1 (List.map e3 best1))),(6,.d (.bool found1)),(7,jI v1),pR 8 1,(20,jI (shl64 1 (x.Horses.length:Int))),(21,jI v1),(27,.d (.sl 3 (List.map e67 x.Horses))),(28,jI (x.Horses.length:Int)),(29,jI v2),(39,.own 2 (List.map e3 l).length),(41,.own 5 (List.map e3 [v2]).length)] [(5,.row 3 1 (List.map e3 [v2])),(1,.var 61 [.d (.sl 4 (List.map e65 x.Hanks)),.own 3 (List.map e67 l1).length,jI x.Dark,jI x.Near,jI x.Match]),(3,.row 67 3 (List.map e67 l1)),(2,.row 3 1 (List.map e3 l)),(0,.var 61 (cv61 x))] 6 0) ?_
     obtain ⟨l2,hv_23,h⟩:=bsome h
     refine RW.one fokW (r_apO trivial rfl rfl rfl rfl rfl rfl (apz hv_23 e3) (apr hv_23 e3) (r_end ?_))
     refine Au 1 (sT [pR 1 0,(5,.d (.sl 1 (List.map e3 best1))),(6,.d (.bool found1)),(7,jI v1),pR 8 1,(9,.own 2 (List.map e3 l2).length),(20,jI (shl64 1 (x.Horses.length:Int))),(21,jI v1),(27,.d (.sl 3 (List.map e67 x.Horses))),(28,jI (x.Horses.length:Int)),(29,jI v2)] [(2,.row 3 1 (List.map e3 l2)),(1,.var 61 [.d (.sl 4 (List.map e65 x.Hanks)),.own 3 (List.map e67 l1).length,jI x.Dark,jI x.Near,jI x.Match]),(3,.row 67 3 (List.map e67 l1)),(0,.var 61 (cv61 x))] 6 0) ?_
     refine RW.nil ?_
     refine hK_17 _ ?_
     refine Ra (sT [pR 1 0,(5,.d (.sl 1 (List.map e3 best1))),(6,.d (.bool found1)),(7,jI v1),pR 8 1,(9,.own 2 (List.map e3 l2).length),(20,jI (shl64 1 (x.Horses.length:Int))),(21,jI v1),(27,.d (.sl 3 (List.map e67 x.Horses))),(28,jI (x.Horses.length:Int)),(29,jI (wr (v2+1)))] [(2,.row 3 1 (List.map e3 l2)),(1,.var 61 [.d (.sl 4 (List.map e65 x.Hanks)),.own 3 (List.map e67 l1).length,jI x.Dark,jI x.Near,jI x.Match]),(3,.row 67 3 (List.map e67 l1)),(0,.var 61 (cv61 x))] 6 0) ?_
     obtain rfl:=Option.some.inj h
     have ew:wr (v2+1)=v2+1:=inext (N:=(x.Horses.length:Int)) (by omega) (by omega) (by omega)
     rw [ew]
     exact hK_14 _ (Can.kp (by kernel_rfl))
    ·have h:=ifF hb_21 h
     refine AW.rw ?_
     refine Au 4 (sT [pR 1 0,(5,.d (.sl 1 (List.map e3 best1))),(6,.d (.bool found1)),(7,jI v1),pR 8 1,(9,.own 2 (List.map e3 l).length),(20,jI (shl64 1 (x.Horses.length:Int))),(21,jI v1),(27,.d (.sl 3 (List.map e67 x.Horses))),(28,jI (x.Horses.length:Int)),(29,jI v2),(44,.own 3 (List.map e67 l1).length),(46,.own 5 (List.map e67 [p]).length)] [(5,.row 67 3 (List.map e67 [p])),(1,.var 61 [.d (.sl 4 (List.map e65 x.Hanks)),.own 3 (List.map e67 l1).length,jI x.Dark,jI x.Near,jI x.Match]),(3,.row 67 3 (List.map e67 l1)),(2,.row 3 1 (List.map e3 l)),(0,.var 61 (cv61 x))] 6 0) ?_
     obtain ⟨l3,hv_25,h⟩:=bsome h
     refine RW.one fokW (r_apO trivial rfl rfl rfl rfl rfl rfl (apz hv_25 e67) (apr hv_25 e67) (r_end ?_))
     refine Au 2 (sT [pR 1 0,(5,.d (.sl 1 (List.map e3 best1))),(6,.d (.bool found1)),(7,jI v1),pR 8 1,(9,.own 2 (List.map e3 l).length),(20,jI (shl64 1 (x.Horses.length:Int))),(21,jI v1),(27,.d (.sl 3 (List.map e67 x.Horses))),(28,jI (x.Horses.length:Int)),(29,jI v2)] [(1,.var 61 [.d (.sl 4 (List.map e65 x.Hanks)),.own 3 (List.map e67 l3).length,jI x.Dark,jI x.Near,jI x.Match]),(3,.row 67 3 (List.map e67 l3)),(2,.row 3 1 (List.map e3 l)),(0,.var 61 (cv61 x))] 6 0) ?_
     refine RW.nil ?_
     refine hK_17 _ ?_
     refine Ra (sT [pR 1 0,(5,.d (.sl 1 (List.map e3 best1))),(6,.d (.bool found1)),(7,jI v1),pR 8 1,(9,.own 2 (List.map e3 l).length),(20,jI (shl64 1 (x.Horses.length:Int))),(21,jI v1),(27,.d (.sl 3 (List.map e67 x.Horses))),(28,jI (x.Horses.length:Int)),(29,jI (wr (v2+1)))] [(1,.var 61 [.d (.sl 4 (List.map e65 x.Hanks)),.own 3 (List.map e67 l3).length,jI x.Dark,jI x.Near,jI x.Match]),(3,.row 67 3 (List.map e67 l3)),(2,.row 3 1 (List.map e3 l)),(0,.var 61 (cv61 x))] 6 0) ?_
     obtain rfl:=Option.some.inj h
     have ew:wr (v2+1)=v2+1:=inext (N:=(x.Horses.length:Int)) (by omega) (by omega) (by omega)
     rw [ew]
     exact hK_14 _ (Can.kp (by kernel_rfl))
   ·obtain ⟨l,l1⟩:=s_14
    subst hout
    refine Sa (sT [pR 1 0,(5,.d (.sl 1 (List.map e3 best1))),(6,.d (.bool found1)),(7,jI v1),pR 8 1,(9,.own 2 (List.map e3 l).length),(20,jI (shl64 1 (x.Horses.length:Int))),(21,jI v1),(27,.d (.sl 3 (List.map e67 x.Horses))),(28,jI (x.Horses.length:Int)),(29,jI v2),(30,.d (.bool (decide (v2<(x.Horses.length:Int)))))] [(1,.var 61 [.d (.sl 4 (List.map e65 x.Hanks)),.own 3 (List.map e67 l1).length,jI x.Dark,jI x.Near,jI x.Match]),(3,.row 67 3 (List.map e67 l1)),(2,.row 3 1 (List.map e3 l)),(0,.var 61 (cv61 x))] 4 0) ?_
    refine AW.seqK (fun K_26 hK_26=>?_)
    refine AW.cond rfl (fun hb_27=>False.elim (by have:=of_decide_eq_true hb_27;omega)) (fun hb_27=>?_)
    refine AW.exit ?_
    refine hK_12 _ ?_
    refine AW.seqK fun K_28 hK_28=>AW.srwK fun Q_29 hQ_29=>?_
    refine Au 2 (sT [pR 1 0,(5,.d (.sl 1 (List.map e3 best1))),(6,.d (.bool found1)),pR 8 1,(9,.own 2 (List.map e3 l).length),(20,jI (shl64 1 (x.Horses.length:Int))),(21,jI v1),(51,.d (.bool found1))] [(1,.var 61 [.d (.sl 4 (List.map e65 x.Hanks)),.own 3 (List.map e67 l1).length,jI x.Dark,jI x.Near,jI x.Match]),(3,.row 67 3 (List.map e67 l1)),(2,.row 3 1 (List.map e3 l)),(0,.var 61 (cv61 x))] 4 0) ?_
    obtain ⟨v3,hx_30,h⟩:=bsome h
    refine RW.cut fokW 19 ((sT [pR 1 0,(5,.d (.sl 1 (List.map e3 best1))),(6,.d (.bool found1)),pR 8 1,(9,.own 2 (List.map e3 l).length),(20,jI (shl64 1 (x.Horses.length:Int))),(21,jI v1),(70,.d (.bool v3))] [(1,.var 61 [.d (.sl 4 (List.map e65 x.Hanks)),.own 3 (List.map e67 l1).length,jI x.Dark,jI x.Near,jI x.Match]),(3,.row 67 3 (List.map e67 l1)),(2,.row 3 1 (List.map e3 l)),(0,.var 61 (cv61 x))] 4 0)) ?_ ?_
    ·refine r_split 51 rfl (fun hb_34=>?_) (fun hb_34=>?_)
     ·have h:=ifT hb_34 hx_30
      refine aX 1 (sT [pR 1 0,(5,.d (.sl 1 (List.map e3 best1))),(6,.d (.bool found1)),pR 8 1,(9,.own 2 (List.map e3 l).length),(20,jI (shl64 1 (x.Horses.length:Int))),(21,jI v1),(51,.d (.bool true)),(52,.own 2 (List.map e3 l).length)] [(1,.var 61 [.d (.sl 4 (List.map e65 x.Hanks)),.own 3 (List.map e67 l1).length,jI x.Dark,jI x.Near,jI x.Match]),(3,.row 67 3 (List.map e67 l1)),(2,.row 3 1 (List.map e3 l)),(0,.var 61 (cv61 x))] 4 0) ?_
      refine r_lenY rfl rfl lenm ?_
      refine aX 1 (sT [pR 1 0,(5,.d (.sl 1 (List.map e3 best1))),(6,.d (.bool found1)),pR 8 1,(9,.own 2 (List.map e3 l).length),(20,jI (shl64 1 (x.Horses.length:Int))),(21,jI v1),(51,.d (.bool true)),(53,jI (l.length:Int)),(54,.d (.sl 1 (List.map e3 best1)))] [(1,.var 61 [.d (.sl 4 (List.map e65 x.Hanks)),.own 3 (List.map e67 l1).length,jI x.Dark,jI x.Near,jI x.Match]),(3,.row 67 3 (List.map e67 l1)),(2,.row 3 1 (List.map e3 l)),(0,.var 61 (cv61 x))] 4 0) ?_
      refine r_lenX rfl rfl lenm ?_
      refine aX 2 (sT [pR 1 0,(5,.d (.sl 1 (List.map e3 best1))),(6,.d (.bool found1)),pR 8 1,(9,.own 2 (List.map e3 l).length),(20,jI (shl64 1 (x.Horses.length:Int))),(21,jI v1),(51,.d (.bool true)),(57,.d (.bool (decide ((best1.length:Int)<(l.length:Int)))))] [(1,.var 61 [.d (.sl 4 (List.map e65 x.Hanks)),.own 3 (List.map e67 l1).length,jI x.Dark,jI x.Near,jI x.Match]),(3,.row 67 3 (List.map e67 l1)),(2,.row 3 1 (List.map e3 l)),(0,.var 61 (cv61 x))] 4 0) ?_
      refine r_split 57 rfl (fun hb_31=>?_) (fun hb_31=>?_)
      ·have h:=ifT hb_31 h
       refine aX 13 (sT [pR 1 0,(5,.d (.sl 1 (List.map e3 best1))),(6,.d (.bool found1)),pR 8 1,(9,.own 2 (List.map e3 l).length),(20,jI (shl64 1 (x.Horses.length:Int))),(21,jI v1),(70,.d (.bool true))] [(1,.var 61 [.d (.sl 4 (List.map e65 x.Hanks)),.own 3 (List.map e67 l1).length,jI x.Dark,jI x.Near,jI x.Match]),(3,.row 67 3 (List.map e67 l1)),(2,.row 3 1 (List.map e3 l)),(0,.var 61 (cv61 x))] 4 0) ?_
       obtain rfl:=Option.some.inj h
       refine RunC.finJ (Can.kp (by kernel_rfl))
      ·have h:=ifF hb_31 h
       refine aX 1 (sT [pR 1 0,(5,.d (.sl 1 (List.map e3 best1))),(6,.d (.bool found1)),pR 8 1,(9,.own 2 (List.map e3 l).length),(20,jI (shl64 1 (x.Horses.length:Int))),(21,jI v1),(51,.d (.bool true)),(57,.d (.bool false)),(58,.own 2 (List.map e3 l).length)] [(1,.var 61 [.d (.sl 4 (List.map e65 x.Hanks)),.own 3 (List.map e67 l1).length,jI x.Dark,jI x.Near,jI x.Match]),(3,.row 67 3 (List.map e67 l1)),(2,.row 3 1 (List.map e3 l)),(0,.var 61 (cv61 x))] 4 0) ?_
       refine r_lenY rfl rfl lenm ?_
       refine aX 1 (sT [pR 1 0,(5,.d (.sl 1 (List.map e3 best1))),(6,.d (.bool found1)),pR 8 1,(9,.own 2 (List.map e3 l).length),(20,jI (shl64 1 (x.Horses.length:Int))),(21,jI v1),(51,.d (.bool true)),(57,.d (.bool false)),(59,jI (l.length:Int)),(60,.d (.sl 1 (List.map e3 best1)))] [(1,.var 61 [.d (.sl 4 (List.map e65 x.Hanks)),.own 3 (List.map e67 l1).length,jI x.Dark,jI x.Near,jI x.Match]),(3,.row 67 3 (List.map e67 l1)),(2,.row 3 1 (List.map e3 l)),(0,.var 61 (cv61 x))] 4 0) ?_
       refine r_lenX rfl rfl lenm ?_
       refine aX 2 (sT [pR 1 0,(5,.d (.sl 1 (List.map e3 best1))),(6,.d (.bool found1)),pR 8 1,(9,.own 2 (List.map e3 l).length),(20,jI (shl64 1 (x.Horses.length:Int))),(21,jI v1),(51,.d (.bool true)),(57,.d (.bool false)),(63,.d (.bool (decide ((l.length:Int)=(best1.length:Int)))))] [(1,.var 61 [.d (.sl 4 (List.map e65 x.Hanks)),.own 3 (List.map e67 l1).length,jI x.Dark,jI x.Near,jI x.Match]),(3,.row 67 3 (List.map e67 l1)),(2,.row 3 1 (List.map e3 l)),(0,.var 61 (cv61 x))] 4 0) ?_
       refine r_split 63 rfl (fun hb_32=>?_) (fun hb_32=>?_)
       ·have h:=ifT hb_32 h
        refine aX 2 (sT [pR 1 0,(5,.d (.sl 1 (List.map e3 best1))),(6,.d (.bool found1)),pR 8 1,(9,.own 2 (List.map e3 l).length),(20,jI (shl64 1 (x.Horses.length:Int))),(21,jI v1),(51,.d (.bool true)),(57,.d (.bool false)),(63,.d (.bool true)),(64,.own 2 (List.map e3 l).length),(65,.d (.sl 1 (List.map e3 best1)))] [(1,.var 61 [.d (.sl 4 (List.map e65 x.Hanks)),.own 3 (List.map e67 l1).length,jI x.Dark,jI x.Near,jI x.Match]),(3,.row 67 3 (List.map e67 l1)),(2,.row 3 1 (List.map e3 l)),(0,.var 61 (cv61 x))] 4 0) ?_
        obtain ⟨r0_3,hx_33,h⟩:=bsome h
        refine r_callF (rs:=[(2,.row 3 1 (List.map e3 l))]) rfl rfl (k83 l best1 _ hx_33) ⟨rfl,trivial⟩ ⟨(.own rfl rfl),.refl _,trivial⟩ rfl rfl rfl ?_
        refine aX 4 (sT [pR 1 0,(5,.d (.sl 1 (List.map e3 best1))),(6,.d (.bool found1)),pR 8 1,(9,.own 2 (List.map e3 l).length),(20,jI (shl64 1 (x.Horses.length:Int))),(21,jI v1),(70,.d (.bool (decide (0≤r0_3))))] [(1,.var 61 [.d (.sl 4 (List.map e65 x.Hanks)),.own 3 (List.map e67 l1).length,jI x.Dark,jI x.Near,jI x.Match]),(3,.row 67 3 (List.map e67 l1)),(2,.row 3 1 (List.map e3 l)),(0,.var 61 (cv61 x))] 4 0) ?_
        obtain rfl:=Option.some.inj h
        refine RunC.finJ (Can.kp (by kernel_rfl))
       ·have h:=ifF hb_32 h
        refine aX 7 (sT [pR 1 0,(5,.d (.sl 1 (List.map e3 best1))),(6,.d (.bool found1)),pR 8 1,(9,.own 2 (List.map e3 l).length),(20,jI (shl64 1 (x.Horses.length:Int))),(21,jI v1),(70,.d (.bool false))] [(1,.var 61 [.d (.sl 4 (List.map e65 x.Hanks)),.own 3 (List.map e67 l1).length,jI x.Dark,jI x.Near,jI x.Match]),(3,.row 67 3 (List.map e67 l1)),(2,.row 3 1 (List.map e3 l)),(0,.var 61 (cv61 x))] 4 0) ?_
        obtain rfl:=Option.some.inj h
        refine RunC.finJ (Can.kp (by kernel_rfl))
     ·have h:=ifF hb_34 hx_30
      refine aX 19 (sT [pR 1 0,(5,.d (.sl 1 (List.map e3 best1))),(6,.d (.bool found1)),pR 8 1,(9,.own 2 (List.map e3 l).length),(20,jI (shl64 1 (x.Horses.length:Int))),(21,jI v1),(70,.d (.bool false))] [(1,.var 61 [.d (.sl 4 (List.map e65 x.Hanks)),.own 3 (List.map e67 l1).length,jI x.Dark,jI x.Near,jI x.Match]),(3,.row 67 3 (List.map e67 l1)),(2,.row 3 1 (List.map e3 l)),(0,.var 61 (cv61 x))] 4 0) ?_
      obtain rfl:=Option.some.inj h
      refine RunC.finJ (Can.kp (by kernel_rfl))
    ·refine RW.nil (hQ_29 _ ?_)
     refine AW.cond rfl (fun hb_35=>?_) (fun hb_35=>?_)
     ·have h:=ifT hb_35 h
      refine AW.exit ?_
      refine hK_11 _ ?_
      refine Ra (sT [pR 1 0,(5,.d (.sl 1 (List.map e3 best1))),(6,.d (.bool found1)),(20,jI (shl64 1 (x.Horses.length:Int))),(21,jI (wr (v1+1)))] [(0,.var 61 (cv61 x))] 4 0) ?_
      obtain rfl:=Option.some.inj h
      have ew:wr (v1+1)=v1+1:=inext (N:=(shl64 1 (x.Horses.length:Int))) (by omega) (by omega) (by omega)
      rw [ew]
      exact hK_8 _ (Can.kp (by kernel_rfl))
     ·have h:=ifF hb_35 h
      refine AW.skip (hK_28 _ ?_)
      refine AW.can (Can.fzH 1 1 3 rfl rfl rfl rfl) ?_
      refine AW.kp (sT [pR 1 0,(5,.d (.sl 1 (List.map e3 best1))),(6,.d (.bool found1)),pR 8 1,(9,.own 2 (List.map e3 l).length),(20,jI (shl64 1 (x.Horses.length:Int))),(21,jI v1),(70,.d (.bool v3))] [(1,.var 61 [.d (.sl 4 (List.map e65 x.Hanks)),.d (.sl 3 (List.map e67 l1)),jI x.Dark,jI x.Near,jI x.Match]),(2,.row 3 1 (List.map e3 l)),(0,.var 61 (cv61 x))] 4 0) (by kernel_rfl) ?_
      refine AW.srwK (fun Q_36 hQ_36=>?_)
      refine Au 1 (sT [pR 1 0,(5,.d (.sl 1 (List.map e3 best1))),(6,.d (.bool found1)),(9,.own 2 (List.map e3 l).length),(20,jI (shl64 1 (x.Horses.length:Int))),(21,jI v1),(71,.agg [.d (.sl 4 (List.map e65 x.Hanks)),.d (.sl 3 (List.map e67 l1)),jI x.Dark,jI x.Near,jI x.Match])] [(2,.row 3 1 (List.map e3 l)),(0,.var 61 (cv61 x))] 4 0) ?_
      obtain ⟨⟨r0_HairBook,mf⟩,hx_37,h⟩:=bsome h
      refine rC (k81 (HairBook.mk x.Hanks l1 x.Dark x.Near x.Match) _ hx_37) ?_
      obtain ⟨r0_1,hx_38,h⟩:=bsome h
      refine rC (k84 r0_HairBook mf _ hx_38) ?_
      refine RW.nil (hQ_36 _ ?_)
      refine AW.cond rfl (fun hb_39=>?_) (fun hb_39=>?_)
      ·have h:=ifT hb_39 h
       refine Ra (sT [pR 1 0,(5,.own 2 (List.map e3 l).length),(6,.d (.bool true)),(20,jI (shl64 1 (x.Horses.length:Int))),(21,jI v1)] [(2,.row 3 1 (List.map e3 l)),(0,.var 61 (cv61 x))] 4 0) ?_
       refine hK_11 _ ?_
       refine Ra (sT [pR 1 0,(5,.own 2 (List.map e3 l).length),(6,.d (.bool true)),(20,jI (shl64 1 (x.Horses.length:Int))),(21,jI (wr (v1+1)))] [(2,.row 3 1 (List.map e3 l)),(0,.var 61 (cv61 x))] 4 0) ?_
       obtain rfl:=Option.some.inj h
       have ew:wr (v1+1)=v1+1:=inext (N:=(shl64 1 (x.Horses.length:Int))) (by omega) (by omega) (by omega)
       rw [ew]
       exact hK_8 _ (Can.trans (Can.fzE 5 2 rfl rfl rfl) (Can.kp (by kernel_rfl)))
      ·have h:=ifF hb_39 h
       refine AW.skip (hK_11 _ ?_)
       refine Ra (sT [pR 1 0,(5,.d (.sl 1 (List.map e3 best1))),(6,.d (.bool found1)),(20,jI (shl64 1 (x.Horses.length:Int))),(21,jI (wr (v1+1)))] [(0,.var 61 (cv61 x))] 4 0) ?_
       obtain rfl:=Option.some.inj h
       have ew:wr (v1+1)=v1+1:=inext (N:=(shl64 1 (x.Horses.length:Int))) (by omega) (by omega) (by omega)
       rw [ew]
       exact hK_8 _ (Can.kp (by kernel_rfl))
  ·obtain ⟨best1,found1⟩:=s_8
   subst hout
   refine Sa (sT [pR 1 0,(5,.d (.sl 1 (List.map e3 best1))),(6,.d (.bool found1)),(20,jI (shl64 1 (x.Horses.length:Int))),(21,jI v1),(22,.d (.bool (decide (v1<(shl64 1 (x.Horses.length:Int))))))] [(0,.var 61 (cv61 x))] 1 0) ?_
   refine AW.seqK (fun K_40 hK_40=>?_)
   refine AW.cond rfl (fun hb_41=>False.elim (by have:=of_decide_eq_true hb_41;omega)) (fun hb_41=>?_)
   refine AW.exit ?_
   refine hK_5 _ ?_
   refine AW.srwK (fun Q_42 hQ_42=>?_)
   refine Au 2 (sT [(5,.d (.sl 1 (List.map e3 best1))),(76,.d (.sl 1 (List.map e3 best1))),(77,.d (.sl 1 (List.map e3 best1)))] [] 1 0) ?_
   refine rL rfl ?_
   refine Au 1 (sT [(76,.d (.sl 1 (List.map e3 best1))),(78,jI (best1.length:Int)),(79,.d (.sl 1 (List.map e3 best1)))] [] 1 0) ?_
   refine rL rfl ?_
   obtain ⟨l4,hv_43,h⟩:=bsome h
   refine RW.one fokW (r_slN trivial rfl rfl rfl DSl.d (slcL_ok hv_43).2.1 (by rw [List.length_map];exact (slcL_ok hv_43).2.2.1) rfl (slz hv_43 e3) (r_end ?_))
   refine Au 2 (sT [(2,.fsl 1 (List.map e3 l4)),(3,jI 0)] [] 1 0) ?_
   refine RW.nil (hQ_42 _ ?_)
   obtain rfl:=Option.some.inj h
   exact AW.ret (hR_0 _ (retX (.cons (.tmp rfl) (.cons (.tmp rfl) .nil)) (Frz.tup_of ⟨.fsl _ _,.refl _,trivial⟩) rfl (by kernel_rfl) (by kernel_rfl)))
def g124_13 (v:Int):Int→Int→(List (Harness_want×Int))→Option (List (Harness_want×Int)):=fun v1 p1 m2=>(mput q197 m2 (Harness_want.mk v v1) p1).bind fun m3=>some m3
def g124_7:Int→(List Int)→(List (Harness_want×Int))→Option (List (Harness_want×Int)):=fun v p m1=>(eachS (g124_13 v) p 0 m1).bind fun m2=>some m2
def g124 (x:HarnessBook):Option (HarnessBook×(List Int)×(List (Harness_want×Int))):=(mput q197 ([]:List (Harness_want×Int)) (Harness_want.mk (-1) (-1)) 0).bind fun m=>(g32 x.Hair).bind fun (r0_2,r1_1)=>(eachS g124_7 x.Needs 0 m).bind fun m1=>some (x,r0_2,m1)
theorem k124 (x:HarnessBook) (r:HarnessBook×(List Int)×(List (Harness_want×Int))) (h:g124 x=some r):SCall Tryd.prog Gs 124 [.agg [.d (.sl 4 (List.map e65 x.Hair.Hanks)),.d (.sl 3 (List.map e67 x.Hair.Horses)),jI x.Hair.Dark,jI x.Hair.Near,jI x.Hair.Match,.d (.sl 1 (List.map e51 x.Needs)),.d (.sl 2 (List.map e33 x.Stock)),jI x.Pack,jI x.Bad]] [] 0 Fr.emp (match r with | (r0_HarnessBook,r0_bald,mf)=>.agg [.d (.sl 4 (List.map e65 r0_HarnessBook.Hair.Hanks)),.d (.sl 3 (List.map e67 r0_HarnessBook.Hair.Horses)),jI r0_HarnessBook.Hair.Dark,jI r0_HarnessBook.Hair.Near,jI r0_HarnessBook.Hair.Match,.d (.sl 1 (List.map e51 r0_HarnessBook.Needs)),.d (.sl 2 (List.map e33 r0_HarnessBook.Stock)),jI r0_HarnessBook.Pack,jI r0_HarnessBook.Bad,.d (.sl 1 (List.map e3 r0_bald)),.fmp (List.map m197_3 mf)]) [] 0 Fr.emp:=by
 unfold g124 at h
 refine SCall.mkK Tryd.func124 c124 rfl rfl (by kernel_rfl) (fun Q_0 hR_0 hN_0=>?_)
 refine Sa (sT [pR 1 0,pR 2 1] [(1,.var 144 [.d (.nilSl),.d (.nilSl),jI 0,jI 0,jI 0,.d (.nilSl),.d (.nilSl),jI 0,jI 0,.d (.nilSl),.d (.nilMap)]),(0,.var 83 (cv83 x))] 2 0) ?_
 refine AW.sdrwK fokW (fun Q_1 hQ_1=>?_)
 refine aX 3 (sT [pR 1 0,pR 2 1,(8,.agg [.d (.sl 4 (List.map e65 x.Hair.Hanks)),.d (.sl 3 (List.map e67 x.Hair.Horses)),jI x.Hair.Dark,jI x.Hair.Near,jI x.Hair.Match,.d (.sl 1 (List.map e51 x.Needs)),.d (.sl 2 (List.map e33 x.Stock)),jI x.Pack,jI x.Bad]),(9,.map 2),(10,.agg [jI (-1),jI (-1)])] [(2,.mp (List.map m197_3 [])),(1,.var 144 [.d (.nilSl),.d (.nilSl),jI 0,jI 0,jI 0,.d (.nilSl),.d (.nilSl),jI 0,jI 0,.d (.nilSl),.d (.nilMap)]),(0,.var 83 (cv83 x))] 3 0) ?_
 obtain ⟨m,hv_2,h⟩:=bsome h
 refine r_mput q197 e197 (fun x=>DV.c (I x)) trivial rfl rfl rfl rfl ft197 q197_ok (fun _=>rfl) rfl hv_2 ?_
 refine aX 4 (sT [pR 1 0,pR 2 1,pR 3 3] [(3,.var 144 (catV (cv83 x) [.d (.nilSl),.map 2])),(2,.mp (List.map m197_3 m)),(1,.var 144 [.d (.nilSl),.d (.nilSl),jI 0,jI 0,jI 0,.d (.nilSl),.d (.nilSl),jI 0,jI 0,.d (.nilSl),.d (.nilMap)]),(0,.var 83 (cv83 x))] 4 0) ?_
 refine Fi (sT [pR 1 0,pR 2 1,pR 3 3] [(3,.var 144 (catV (cv83 x) [.d (.nilSl),.map 2])),(2,.mp (List.map m197_3 m)),(1,.var 144 [.d (.nilSl),.d (.nilSl),jI 0,jI 0,jI 0,.d (.nilSl),.d (.nilSl),jI 0,jI 0,.d (.nilSl),.d (.nilMap)]),(0,.var 83 (cv83 x))] 4 0) ?_
 refine hQ_1 _ ?_
 refine AW.srwK (fun Q_3 hQ_3=>?_)
 refine Au 2 (sT [pR 1 0,pR 2 1,pR 3 3,(15,.agg [.d (.sl 4 (List.map e65 x.Hair.Hanks)),.d (.sl 3 (List.map e67 x.Hair.Horses)),jI x.Hair.Dark,jI x.Hair.Near,jI x.Hair.Match])] [(3,.var 144 (catV (cv83 x) [.d (.nilSl),.map 2])),(2,.mp (List.map m197_3 m)),(1,.var 144 [.d (.nilSl),.d (.nilSl),jI 0,jI 0,jI 0,.d (.nilSl),.d (.nilSl),jI 0,jI 0,.d (.nilSl),.d (.nilMap)]),(0,.var 83 (cv83 x))] 4 0) ?_
 obtain ⟨⟨r0_2,r1_1⟩,hx_4,h⟩:=bsome h
 refine rC (k32 x.Hair _ hx_4) ?_
 refine Au 5 (sT [pR 1 0,pR 2 1,pR 3 3] [(3,.var 144 (catV (cv83 x) [.d (.sl 1 (List.map e3 r0_2)),.map 2])),(2,.mp (List.map m197_3 m)),(1,.var 144 [.d (.nilSl),.d (.nilSl),jI 0,jI 0,jI 0,.d (.nilSl),.d (.nilSl),jI 0,jI 0,.d (.nilSl),.d (.nilMap)]),(0,.var 83 (cv83 x))] 4 0) ?_
 refine RW.nil (hQ_3 _ ?_)
 refine AW.seqK fun K_5 hK_5=>AW.srwK fun Q_6 hQ_6=>?_
 refine Au 2 (sT [pR 2 1,pR 3 3,(21,.d (.sl 1 (List.map e51 x.Needs)))] [(3,.var 144 (catV (cv83 x) [.d (.sl 1 (List.map e3 r0_2)),.map 2])),(2,.mp (List.map m197_3 m)),(1,.var 144 [.d (.nilSl),.d (.nilSl),jI 0,jI 0,jI 0,.d (.nilSl),.d (.nilSl),jI 0,jI 0,.d (.nilSl),.d (.nilMap)])] 4 0) ?_
 refine rL rfl ?_
 refine Au 1 (sT [pR 2 1,pR 3 3,(21,.d (.sl 1 (List.map e51 x.Needs))),(22,jI (x.Needs.length:Int)),(23,jI 0)] [(3,.var 144 (catV (cv83 x) [.d (.sl 1 (List.map e3 r0_2)),.map 2])),(2,.mp (List.map m197_3 m)),(1,.var 144 [.d (.nilSl),.d (.nilSl),jI 0,jI 0,jI 0,.d (.nilSl),.d (.nilSl),jI 0,jI 0,.d (.nilSl),.d (.nilMap)])] 4 0) ?_
 refine RW.nil (hQ_6 _ ?_)
 refine AW.block ?_
 refine AW.sln (t:=21) rfl (fun hN_7=>?_)
 rw [List.length_map] at hN_7
 obtain ⟨out_7,hx_7,h⟩:=bsome h
 refine AW.evSK (fun (v:Int) (m1:List (Harness_want×Int))=>(sT [pR 2 1,pR 3 3,(21,.d (.sl 1 (List.map e51 x.Needs))),(22,jI (x.Needs.length:Int)),(23,jI v)] [(3,.var 144 (catV (cv83 x) [.d (.sl 1 (List.map e3 r0_2)),.map 2])),(2,.mp (List.map m197_3 m1)),(1,.var 144 [.d (.nilSl),.d (.nilSl),jI 0,jI 0,jI 0,.d (.nilSl),.d (.nilSl),jI 0,jI 0,.d (.nilSl),.d (.nilMap)])] 4 0)) g124_7 hx_7 (Can.kp (by kernel_rfl)) (fun v p m1 hi_7 hl_7 hp_7 c_7 h K_7 hK_7=>?_) (fun v m1 hi_7 hl_7 hout=>?_)
 ·unfold g124_7 at h
  refine Sa (sT [pR 2 1,pR 3 3,(21,.d (.sl 1 (List.map e51 x.Needs))),(22,jI (x.Needs.length:Int)),(23,jI v),(24,.d (.bool (decide (v<(x.Needs.length:Int)))))] [(3,.var 144 (catV (cv83 x) [.d (.sl 1 (List.map e3 r0_2)),.map 2])),(2,.mp (List.map m197_3 m1)),(1,.var 144 [.d (.nilSl),.d (.nilSl),jI 0,jI 0,jI 0,.d (.nilSl),.d (.nilSl),jI 0,jI 0,.d (.nilSl),.d (.nilMap)])] 4 0) ?_
  refine AW.seqK (fun K_8 hK_8=>?_)
  refine AW.cond rfl (fun hb_9=>?_) (fun hb_9=>False.elim (by have:=of_decide_eq_false hb_9;omega))
  refine AW.skip (hK_8 _ ?_)
  refine AW.seqK (fun K_10 hK_10=>?_)
  refine AW.block ?_
  refine AW.srwK (fun Q_11 hQ_11=>?_)
  refine Au 1 (sT [pR 2 1,pR 3 3,(21,.d (.sl 1 (List.map e51 x.Needs))),(22,jI (x.Needs.length:Int)),(23,jI v),(25,jI v)] [(3,.var 144 (catV (cv83 x) [.d (.sl 1 (List.map e3 r0_2)),.map 2])),(2,.mp (List.map m197_3 m1)),(1,.var 144 [.d (.nilSl),.d (.nilSl),jI 0,jI 0,jI 0,.d (.nilSl),.d (.nilSl),jI 0,jI 0,.d (.nilSl),.d (.nilMap)])] 4 0) ?_
  refine RW.one fokW (r_iaD trivial rfl rfl hi_7 (row:=e51 p) (mapget hp_7) (r_end ?_))
  refine Au 3 (sT [pR 2 1,pR 3 3,(4,jI v),(5,.d (.sl 1 (List.map e3 p))),(21,.d (.sl 1 (List.map e51 x.Needs))),(22,jI (x.Needs.length:Int)),(23,jI v)] [(3,.var 144 (catV (cv83 x) [.d (.sl 1 (List.map e3 r0_2)),.map 2])),(2,.mp (List.map m197_3 m1)),(1,.var 144 [.d (.nilSl),.d (.nilSl),jI 0,jI 0,jI 0,.d (.nilSl),.d (.nilSl),jI 0,jI 0,.d (.nilSl),.d (.nilMap)])] 4 0) ?_
  refine RW.nil (hQ_11 _ ?_)
  refine AW.srwK (fun Q_12 hQ_12=>?_)
  refine Au 1 (sT [pR 2 1,pR 3 3,(4,jI v),(21,.d (.sl 1 (List.map e51 x.Needs))),(22,jI (x.Needs.length:Int)),(23,jI v),(28,.d (.sl 1 (List.map e3 p)))] [(3,.var 144 (catV (cv83 x) [.d (.sl 1 (List.map e3 r0_2)),.map 2])),(2,.mp (List.map m197_3 m1)),(1,.var 144 [.d (.nilSl),.d (.nilSl),jI 0,jI 0,jI 0,.d (.nilSl),.d (.nilSl),jI 0,jI 0,.d (.nilSl),.d (.nilMap)])] 4 0) ?_
  refine rL rfl ?_
  refine Au 1 (sT [pR 2 1,pR 3 3,(4,jI v),(21,.d (.sl 1 (List.map e51 x.Needs))),(22,jI (x.Needs.length:Int)),(23,jI v),(28,.d (.sl 1 (List.map e3 p))),(29,jI (p.length:Int)),(30,jI 0)] [(3,.var 144 (catV (cv83 x) [.d (.sl 1 (List.map e3 r0_2)),.map 2])),(2,.mp (List.map m197_3 m1)),(1,.var 144 [.d (.nilSl),.d (.nilSl),jI 0,jI 0,jI 0,.d (.nilSl),.d (.nilSl),jI 0,jI 0,.d (.nilSl),.d (.nilMap)])] 4 0) ?_
  refine RW.nil (hQ_12 _ ?_)
  refine AW.block ?_
  refine AW.sln (t:=28) rfl (fun hN_13=>?_)
  rw [List.length_map] at hN_13
  obtain ⟨out_13,hx_13,h⟩:=bsome h
  refine AW.evSK (fun (v1:Int) (m2:List (Harness_want×Int))=>(sT [pR 2 1,pR 3 3,(4,jI v),(21,.d (.sl 1 (List.map e51 x.Needs))),(22,jI (x.Needs.length:Int)),(23,jI v),(28,.d (.sl 1 (List.map e3 p))),(29,jI (p.length:Int)),(30,jI v1)] [(3,.var 144 (catV (cv83 x) [.d (.sl 1 (List.map e3 r0_2)),.map 2])),(2,.mp (List.map m197_3 m2)),(1,.var 144 [.d (.nilSl),.d (.nilSl),jI 0,jI 0,jI 0,.d (.nilSl),.d (.nilSl),jI 0,jI 0,.d (.nilSl),.d (.nilMap)])] 4 0)) (g124_13 v) hx_13 (Can.kp (by kernel_rfl)) (fun v1 p1 m2 hi_13 hl_13 hp_13 c_13 h K_13 hK_13=>?_) (fun v1 m2 hi_13 hl_13 hout=>?_)
  ·unfold g124_13 at h
   refine Sa (sT [pR 2 1,pR 3 3,(4,jI v),(21,.d (.sl 1 (List.map e51 x.Needs))),(22,jI (x.Needs.length:Int)),(23,jI v),(28,.d (.sl 1 (List.map e3 p))),(29,jI (p.length:Int)),(30,jI v1),(31,.d (.bool (decide (v1<(p.length:Int)))))] [(3,.var 144 (catV (cv83 x) [.d (.sl 1 (List.map e3 r0_2)),.map 2])),(2,.mp (List.map m197_3 m2)),(1,.var 144 [.d (.nilSl),.d (.nilSl),jI 0,jI 0,jI 0,.d (.nilSl),.d (.nilSl),jI 0,jI 0,.d (.nilSl),.d (.nilMap)])] 4 0) ?_
   refine AW.seqK (fun K_14 hK_14=>?_)
   refine AW.cond rfl (fun hb_15=>?_) (fun hb_15=>False.elim (by have:=of_decide_eq_false hb_15;omega))
   refine AW.skip (hK_14 _ ?_)
   refine AW.seqK (fun K_16 hK_16=>?_)
   refine AW.block ?_
   refine AW.srwK (fun Q_17 hQ_17=>?_)
   refine Au 1 (sT [pR 2 1,pR 3 3,(4,jI v),(21,.d (.sl 1 (List.map e51 x.Needs))),(22,jI (x.Needs.length:Int)),(23,jI v),(28,.d (.sl 1 (List.map e3 p))),(29,jI (p.length:Int)),(30,jI v1),(32,jI v1)] [(3,.var 144 (catV (cv83 x) [.d (.sl 1 (List.map e3 r0_2)),.map 2])),(2,.mp (List.map m197_3 m2)),(1,.var 144 [.d (.nilSl),.d (.nilSl),jI 0,jI 0,jI 0,.d (.nilSl),.d (.nilSl),jI 0,jI 0,.d (.nilSl),.d (.nilMap)])] 4 0) ?_
   refine RW.one fokW (r_iaD trivial rfl rfl hi_13 (row:=e3 p1) (mapget hp_13) (r_end ?_))
   refine Au 3 (sT [pR 2 1,pR 3 3,(4,jI v),(6,jI v1),(7,jI p1),(21,.d (.sl 1 (List.map e51 x.Needs))),(22,jI (x.Needs.length:Int)),(23,jI v),(28,.d (.sl 1 (List.map e3 p))),(29,jI (p.length:Int)),(30,jI v1)] [(3,.var 144 (catV (cv83 x) [.d (.sl 1 (List.map e3 r0_2)),.map 2])),(2,.mp (List.map m197_3 m2)),(1,.var 144 [.d (.nilSl),.d (.nilSl),jI 0,jI 0,jI 0,.d (.nilSl),.d (.nilSl),jI 0,jI 0,.d (.nilSl),.d (.nilMap)])] 4 0) ?_
   refine RW.nil (hQ_17 _ ?_)
   refine AW.rw ?_
   refine Au 6 (sT [pR 2 1,pR 3 3,(4,jI v),(21,.d (.sl 1 (List.map e51 x.Needs))),(22,jI (x.Needs.length:Int)),(23,jI v),(28,.d (.sl 1 (List.map e3 p))),(29,jI (p.length:Int)),(30,jI v1),(36,.map 2),(39,.agg [jI v,jI v1]),(40,jI p1)] [(3,.var 144 (catV (cv83 x) [.d (.sl 1 (List.map e3 r0_2)),.map 2])),(2,.mp (List.map m197_3 m2)),(1,.var 144 [.d (.nilSl),.d (.nilSl),jI 0,jI 0,jI 0,.d (.nilSl),.d (.nilSl),jI 0,jI 0,.d (.nilSl),.d (.nilMap)])] 4 0) ?_
   obtain ⟨m3,hv_19,h⟩:=bsome h
   refine RW.one fokW (r_mput q197 e197 (fun x=>DV.c (I x)) trivial rfl rfl rfl rfl ft197 q197_ok (fun _=>rfl) rfl hv_19 (r_end ?_))
   refine RW.nil ?_
   refine hK_16 _ ?_
   refine Ra (sT [pR 2 1,pR 3 3,(4,jI v),(21,.d (.sl 1 (List.map e51 x.Needs))),(22,jI (x.Needs.length:Int)),(23,jI v),(28,.d (.sl 1 (List.map e3 p))),(29,jI (p.length:Int)),(30,jI (wr (v1+1)))] [(2,.mp (List.map m197_3 m3)),(3,.var 144 (catV (cv83 x) [.d (.sl 1 (List.map e3 r0_2)),.map 2])),(1,.var 144 [.d (.nilSl),.d (.nilSl),jI 0,jI 0,jI 0,.d (.nilSl),.d (.nilSl),jI 0,jI 0,.d (.nilSl),.d (.nilMap)])] 4 0) ?_
   obtain rfl:=Option.some.inj h
   have ew:wr (v1+1)=v1+1:=inext (N:=(p.length:Int)) (by omega) (by omega) (by omega)
   rw [ew]
   exact hK_13 _ (Can.kp (by kernel_rfl))
  ·subst hout
   refine Sa (sT [pR 2 1,pR 3 3,(4,jI v),(21,.d (.sl 1 (List.map e51 x.Needs))),(22,jI (x.Needs.length:Int)),(23,jI v),(28,.d (.sl 1 (List.map e3 p))),(29,jI (p.length:Int)),(30,jI v1),(31,.d (.bool (decide (v1<(p.length:Int)))))] [(3,.var 144 (catV (cv83 x) [.d (.sl 1 (List.map e3 r0_2)),.map 2])),(2,.mp (List.map m197_3 m2)),(1,.var 144 [.d (.nilSl),.d (.nilSl),jI 0,jI 0,jI 0,.d (.nilSl),.d (.nilSl),jI 0,jI 0,.d (.nilSl),.d (.nilMap)])] 4 0) ?_
   refine AW.seqK (fun K_20 hK_20=>?_)
   refine AW.cond rfl (fun hb_21=>False.elim (by have:=of_decide_eq_true hb_21;omega)) (fun hb_21=>?_)
   refine AW.exit ?_
   refine hK_10 _ ?_
   refine Ra (sT [pR 2 1,pR 3 3,(21,.d (.sl 1 (List.map e51 x.Needs))),(22,jI (x.Needs.length:Int)),(23,jI (wr (v+1)))] [(3,.var 144 (catV (cv83 x) [.d (.sl 1 (List.map e3 r0_2)),.map 2])),(2,.mp (List.map m197_3 m2)),(1,.var 144 [.d (.nilSl),.d (.nilSl),jI 0,jI 0,jI 0,.d (.nilSl),.d (.nilSl),jI 0,jI 0,.d (.nilSl),.d (.nilMap)])] 4 0) ?_
   obtain rfl:=Option.some.inj h
   have ew:wr (v+1)=v+1:=inext (N:=(x.Needs.length:Int)) (by omega) (by omega) (by omega)
   rw [ew]
   exact hK_7 _ (Can.kp (by kernel_rfl))
 ·subst hout
  refine Sa (sT [pR 2 1,pR 3 3,(21,.d (.sl 1 (List.map e51 x.Needs))),(22,jI (x.Needs.length:Int)),(23,jI v),(24,.d (.bool (decide (v<(x.Needs.length:Int)))))] [(3,.var 144 (catV (cv83 x) [.d (.sl 1 (List.map e3 r0_2)),.map 2])),(2,.mp (List.map m197_3 m1)),(1,.var 144 [.d (.nilSl),.d (.nilSl),jI 0,jI 0,jI 0,.d (.nilSl),.d (.nilSl),jI 0,jI 0,.d (.nilSl),.d (.nilMap)])] 4 0) ?_
  refine AW.seqK (fun K_22 hK_22=>?_)
  refine AW.cond rfl (fun hb_23=>False.elim (by have:=of_decide_eq_true hb_23;omega)) (fun hb_23=>?_)
  refine AW.exit ?_
  refine hK_5 _ ?_
  refine Sa (sT [pR 2 1] [(1,.var 144 (catV (cv83 x) [.d (.sl 1 (List.map e3 r0_2)),.map 2])),(2,.mp (List.map m197_3 m1))] 4 0) ?_
  obtain rfl:=Option.some.inj h
  exact AW.ret (hR_0 _ (retXM (.cons (.agg rfl rfl (Nat.le_of_ble_eq_true rfl)) .nil) (FrzR.agg_of ⟨.of (.refl _),.of (.refl _),.of (.refl _),.of (.refl _),.of (.refl _),.of (.refl _),.of (.refl _),.of (.refl _),.of (.refl _),.of (.refl _),.mp rfl,trivial⟩) rfl (by kernel_rfl) (by kernel_rfl)))
def g92 (x:HarnessBook) (is:Bool):Option (Ctl (HarnessBook×(List Int)×Int) (HarnessBook×(List Int)×(List (Harness_want×Int))×Int)):=(g48 x).bind fun r0_6=>bif (decide (r0_6≠0)) then (some (.next ((HarnessBook.mk (HairBook.mk [] [] 0 0 0) [] [] 0 0),[],r0_6))) else (bif (!is) then (some (.next ((HarnessBook.mk (HairBook.mk [] [] 0 0 0) [] [] 0 0),[],101))) else ((g124 x).bind fun (r0_HarnessBook,r0_bald,mf)=>some (.brk (r0_HarnessBook,r0_bald,mf,0))))
def y1:List (Nat×Blk):=[(1,.var 144 [.d (.nilSl),.d (.nilSl),jI 0,jI 0,jI 0,.d (.nilSl),.d (.nilSl),jI 0,jI 0,.d (.nilSl),.d (.nilMap)])]
theorem k92 (x:HarnessBook) (is:Bool) (r:Ctl (HarnessBook×(List Int)×Int) (HarnessBook×(List Int)×(List (Harness_want×Int))×Int)) (h:g92 x is=some r):SCall Tryd.prog Gs 92 [.agg [.d (.sl 4 (List.map e65 x.Hair.Hanks)),.d (.sl 3 (List.map e67 x.Hair.Horses)),jI x.Hair.Dark,jI x.Hair.Near,jI x.Hair.Match,.d (.sl 1 (List.map e51 x.Needs)),.d (.sl 2 (List.map e33 x.Stock)),jI x.Pack,jI x.Bad],.d (.bool is)] [] 0 Fr.emp (match r with | .next (r0_HarnessBook3,r0_bald3,r1_1)=>.tup [.agg [.d (.sl 4 (List.map e65 r0_HarnessBook3.Hair.Hanks)),.d (.sl 3 (List.map e67 r0_HarnessBook3.Hair.Horses)),jI r0_HarnessBook3.Hair.Dark,jI r0_HarnessBook3.Hair.Near,jI r0_HarnessBook3.Hair.Match,.d (.sl 1 (List.map e51 r0_HarnessBook3.Needs)),.d (.sl 2 (List.map e33 r0_HarnessBook3.Stock)),jI r0_HarnessBook3.Pack,jI r0_HarnessBook3.Bad,.d (.sl 1 (List.map e3 r0_bald3)),.d (.nilMap)],jI r1_1] | .brk (r0_HarnessBook4,r0_bald4,mf1,r1_2)=>.tup [.agg [.d (.sl 4 (List.map e65 r0_HarnessBook4.Hair.Hanks)),.d (.sl 3 (List.map e67 r0_HarnessBook4.Hair.Horses)),jI r0_HarnessBook4.Hair.Dark,jI r0_HarnessBook4.Hair.Near,jI r0_HarnessBook4.Hair.Match,.d (.sl 1 (List.map e51 r0_HarnessBook4.Needs)),.d (.sl 2 (List.map e33 r0_HarnessBook4.Stock)),jI r0_HarnessBook4.Pack,jI r0_HarnessBook4.Bad,.d (.sl 1 (List.map e3 r0_bald4)),.fmp (List.map m197_3 mf1)],jI r1_2]) [] 0 Fr.emp:=by
 unfold g92 at h
 refine SCall.mkK Tryd.func92 c92 rfl (by rcases r with _ | _<;>rfl) (by rcases r with _ | _<;>kernel_rfl) (fun Q_0 hR_0 hN_0=>?_)
 refine Sa (sT [(1,.d (.bool is)),pR 2 0,pR 4 1] [(1,.var 144 [.d (.nilSl),.d (.nilSl),jI 0,jI 0,jI 0,.d (.nilSl),.d (.nilSl),jI 0,jI 0,.d (.nilSl),.d (.nilMap)]),(0,.var 83 (cv83 x))] 2 0) ?_
 refine AW.seqK fun K_1 hK_1=>AW.srwK fun Q_2 hQ_2=>?_
 refine Au 1 (sT [(1,.d (.bool is)),pR 2 0,pR 4 1,(7,.agg [.d (.sl 4 (List.map e65 x.Hair.Hanks)),.d (.sl 3 (List.map e67 x.Hair.Horses)),jI x.Hair.Dark,jI x.Hair.Near,jI x.Hair.Match,.d (.sl 1 (List.map e51 x.Needs)),.d (.sl 2 (List.map e33 x.Stock)),jI x.Pack,jI x.Bad])] [(1,.var 144 [.d (.nilSl),.d (.nilSl),jI 0,jI 0,jI 0,.d (.nilSl),.d (.nilSl),jI 0,jI 0,.d (.nilSl),.d (.nilMap)]),(0,.var 83 (cv83 x))] 2 0) ?_
 obtain ⟨r0_6,hx_3,h⟩:=bsome h
 refine rC (k48 x _ hx_3) ?_
 refine Au 1 (sT [(1,.d (.bool is)),pR 2 0,pR 4 1,(6,jI r0_6)] [(1,.var 144 [.d (.nilSl),.d (.nilSl),jI 0,jI 0,jI 0,.d (.nilSl),.d (.nilSl),jI 0,jI 0,.d (.nilSl),.d (.nilMap)]),(0,.var 83 (cv83 x))] 2 0) ?_
 refine RW.nil (hQ_2 _ ?_)
 refine Sa (sT [(1,.d (.bool is)),pR 2 0,pR 4 1,(6,jI r0_6),(10,.d (.bool (decide (r0_6≠0))))] [(1,.var 144 [.d (.nilSl),.d (.nilSl),jI 0,jI 0,jI 0,.d (.nilSl),.d (.nilSl),jI 0,jI 0,.d (.nilSl),.d (.nilMap)]),(0,.var 83 (cv83 x))] 2 0) ?_
 refine AW.cond rfl (fun hb_4=>?_) (fun hb_4=>?_)
 ·have h:=ifT hb_4 h
  refine Sa (sT [pR 4 1,(5,jI r0_6)] y1 2 0) ?_
  obtain rfl:=Option.some.inj h
  exact AW.ret (hR_0 _ (retX (.cons (.agg rfl rfl (Nat.le_of_ble_eq_true rfl)) (.cons (.tmp rfl) .nil)) (Frz.tup_of ⟨Frz.agg_of ⟨(.nil 4),(.nil 3),.refl _,.refl _,.refl _,(.nil 1),(.nil 2),.refl _,.refl _,(.nil 1),.refl _,trivial⟩,.refl _,trivial⟩) rfl (by kernel_rfl) (by kernel_rfl)))
 ·have h:=ifF hb_4 h
  refine AW.skip (hK_1 _ ?_)
  refine AW.seqK (fun K_5 hK_5=>?_)
  refine Sa (sT [pR 2 0,pR 4 1,(14,.d (.bool (!is)))] [(1,.var 144 [.d (.nilSl),.d (.nilSl),jI 0,jI 0,jI 0,.d (.nilSl),.d (.nilSl),jI 0,jI 0,.d (.nilSl),.d (.nilMap)]),(0,.var 83 (cv83 x))] 2 0) ?_
  refine AW.cond rfl (fun hb_6=>?_) (fun hb_6=>?_)
  ·have h:=ifT hb_6 h
   refine Sa (sT [pR 4 1,(5,jI 101)] y1 2 0) ?_
   obtain rfl:=Option.some.inj h
   exact AW.ret (hR_0 _ (retX (.cons (.agg rfl rfl (Nat.le_of_ble_eq_true rfl)) (.cons (.tmp rfl) .nil)) (Frz.tup_of ⟨Frz.agg_of ⟨(.nil 4),(.nil 3),.refl _,.refl _,.refl _,(.nil 1),(.nil 2),.refl _,.refl _,(.nil 1),.refl _,trivial⟩,.refl _,trivial⟩) rfl (by kernel_rfl) (by kernel_rfl)))
  ·have h:=ifF hb_6 h
   refine AW.skip (hK_5 _ ?_)
   refine AW.srwK (fun Q_7 hQ_7=>?_)
   refine Au 1 (sT [pR 4 1,(16,.agg [.d (.sl 4 (List.map e65 x.Hair.Hanks)),.d (.sl 3 (List.map e67 x.Hair.Horses)),jI x.Hair.Dark,jI x.Hair.Near,jI x.Hair.Match,.d (.sl 1 (List.map e51 x.Needs)),.d (.sl 2 (List.map e33 x.Stock)),jI x.Pack,jI x.Bad])] y1 2 0) ?_
   obtain ⟨⟨r0_HarnessBook,r0_bald,mf⟩,hx_8,h⟩:=bsome h
   refine rC (k124 x _ hx_8) ?_
   refine Au 2 (sT [pR 4 1,(5,jI 0)] [(1,.var 144 (catV (cv83 r0_HarnessBook) [.d (.sl 1 (List.map e3 r0_bald)),.fmp (List.map m197_3 mf)]))] 2 0) ?_
   refine RW.nil (hQ_7 _ ?_)
   obtain rfl:=Option.some.inj h
   exact rT hR_0 (.cons (.agg rfl rfl (Nat.le_of_ble_eq_true rfl)) (.cons (.tmp rfl) .nil))
end Go.Proofs.Tm
