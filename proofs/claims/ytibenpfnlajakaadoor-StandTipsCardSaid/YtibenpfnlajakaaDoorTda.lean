/- Told functions, and that the program does so, part 1. Conditions: none. -/
import Derived.Test.YtibenpfnlajakaaDoorDa
set_option linter.unusedVariables false
set_option linter.unusedSimpArgs false
namespace Go.Proofs.Tz
open Go Go.Abs Go.Proofs
def g63 (n : Int) (low : Int) (high : Int) : Option Bool := some ((decide (low ≤ n)) && (decide (n ≤ high)))
theorem k63 (n : Int) (low : Int) (high : Int) (r : Bool) (h : g63 n low high = some r) : SCall Tryd.prog Gs 63 [.d (I n), .d (I low), .d (I high)] [] 0 Fr.emp (.d (.bool r)) [] 0 Fr.emp := by
  unfold g63 at h
  refine SCall.mkK Tryd.func63 c63 rfl rfl (by kernel_rfl) (fun Q_0 hR_0 hN_0 => ?_)
  refine AW.sa fokW [] ⟨[(0, .d (I n)), (1, .d (I low)), (2, .d (I high))], [], 0, Fr.emp, [], 0⟩ (by kernel_rfl) ?_
  refine AW.sa fokW [10] ⟨[(6, .d (.bool ((decide (low ≤ n)) && (decide (n ≤ high)))))], [], 0, Fr.emp, [], 0⟩ (by kernel_rfl) ?_
  obtain rfl := Option.some.inj h
  exact AW.ret (hR_0 _ (retX (.cons (.tmp rfl) .nil) (.refl _) rfl (by kernel_rfl) (by kernel_rfl)))
def g18_56 (t : StandBook) : Int → StandTrial → Bool → Option Bool := fun v13 p1 r_2 => (bif r_2 then ((g63 p1.Weight 1 t.Limit).bind fun r0_12 => some r0_12) else (some false)).bind fun v14 => (bif v14 then ((g63 p1.Lean_ (wr (-t.Lean_)) t.Lean_).bind fun r0_13 => some r0_13) else (some false)).bind fun v15 => some v15
def g18_36 : Int → StandPart → Bool → Option Bool := fun v9 p r_1 => (bif r_1 then ((g63 p.Weight.Low 1 p.Weight.High).bind fun r0_9 => some r0_9) else (some false)).bind fun v10 => (bif ((v10 && (decide (p.Weight.High ≤ 99))) && (decide ((wr (p.Weight.High - p.Weight.Low)) ≤ 4))) then ((g63 p.Along (-60) 60).bind fun r0_10 => some r0_10) else (some false)).bind fun v11 => (bif v11 then ((g63 p.High 0 60).bind fun r0_11 => some r0_11) else (some false)).bind fun v12 => some v12
def g18 (t : StandBook) : Option Int := (g63 t.Kind 0 1).bind fun r0 => (bif r0 then ((g63 t.Front 1 60).bind fun r0_1 => some r0_1) else (some false)).bind fun v => (bif v then ((g63 t.Back 1 60).bind fun r0_2 => some r0_2) else (some false)).bind fun v1 => (bif (decide (t.Kind = 1)) then ((bif v1 then ((g63 t.Radius 1 120).bind fun r0_3 => some r0_3) else (some false)).bind fun v2 => some v2) else (some (v1 && (decide (t.Radius = 0))))).bind fun r_ => (bif r_ then ((g63 (t.Parts.length : Int) 1 4).bind fun r0_4 => some r0_4) else (some false)).bind fun v3 => (bif v3 then ((g63 t.Along (-60) 60).bind fun r0_5 => some r0_5) else (some false)).bind fun v4 => (bif v4 then ((g63 t.High 0 60).bind fun r0_6 => some r0_6) else (some false)).bind fun v5 => (bif v5 then ((g63 t.Lean_ 0 12).bind fun r0_7 => some r0_7) else (some false)).bind fun v6 => (bif v6 then ((g63 t.Limit 1 60).bind fun r0_8 => some r0_8) else (some false)).bind fun v7 => (bif v7 then (some (decide ((t.Trials.length : Int) ≤ 5))) else (some false)).bind fun v8 => (eachS g18_36 t.Parts 0 v8).bind fun r_1 => (eachS (g18_56 t) t.Trials 0 r_1).bind fun r_2 => bif (!r_2) then (some 20) else (some 0)
theorem k18 (t : StandBook) (r : Int) (h : g18 t = some r) : SCall Tryd.prog Gs 18 [.agg [.d (I t.Kind), .d (I t.Front), .d (I t.Back), .d (I t.Radius), .d (.sl 4 (List.map e70 t.Parts)), .d (I t.Along), .d (I t.High), .d (I t.Lean_), .d (I t.Limit), .d (.sl 3 (List.map e65 t.Trials))]] [] 0 Fr.emp (.d (I r)) [] 0 Fr.emp := by
  unfold g18 at h
  refine SCall.mkK Tryd.func18 c18 rfl rfl (by kernel_rfl) (fun Q_0 hR_0 hN_0 => ?_)
  refine AW.sa fokW [] ⟨[(1, .ptr 0 0)], [(0, .var 25 (cv25 t))], 1, Fr.emp, [], 0⟩ (by kernel_rfl) ?_
  refine AW.srwK (fun Q_1 hQ_1 => ?_)
  refine RW.au fokW 2 [] ⟨[(1, .ptr 0 0), (10, .d (I t.Kind))], [(0, .var 25 (cv25 t))], 1, Fr.emp, [], 0⟩ (by kernel_rfl) ?_
  obtain ⟨r0, hx_2, h⟩ := bsome h
  refine RW.one fokW (r_call trivial rfl (k63 t.Kind 0 1 _ hx_2) rfl rfl (r_end ?_))
  refine RW.au fokW 1 [] ⟨[(1, .ptr 0 0), (12, .d (.bool r0))], [(0, .var 25 (cv25 t))], 1, Fr.emp, [], 0⟩ (by kernel_rfl) ?_
  obtain ⟨v, hx_3, h⟩ := bsome h
  refine RW.cut fokW 4 (⟨[(1, .ptr 0 0), (16, .d (.bool v))], [(0, .var 25 (cv25 t))], 1, Fr.emp, [], 0⟩) ?_ ?_
  · refine r_split 12 rfl (fun hb_5 => ?_) (fun hb_5 => ?_)
    · have h := ifT hb_5 hx_3
      refine RunC.auX 2 ⟨[(1, .ptr 0 0), (12, .d (.bool true)), (14, .d (I t.Front))], [(0, .var 25 (cv25 t))], 1, Fr.emp, [], 0⟩ (by kernel_rfl) ?_
      obtain ⟨r0_1, hx_4, h⟩ := bsome h
      refine r_call rfl rfl (k63 t.Front 1 60 _ hx_4) rfl rfl ?_
      refine RunC.auX 1 ⟨[(1, .ptr 0 0), (16, .d (.bool r0_1))], [(0, .var 25 (cv25 t))], 1, Fr.emp, [], 0⟩ (by kernel_rfl) ?_
      obtain rfl := Option.some.inj h
      refine RunC.finJ (Can.kp (by kernel_rfl))
    · have h := ifF hb_5 hx_3
      refine RunC.auX 4 ⟨[(1, .ptr 0 0), (16, .d (.bool false))], [(0, .var 25 (cv25 t))], 1, Fr.emp, [], 0⟩ (by kernel_rfl) ?_
      obtain rfl := Option.some.inj h
      refine RunC.finJ (Can.kp (by kernel_rfl))
  · refine RW.au fokW 1 [] ⟨[(1, .ptr 0 0), (17, .d (.bool v))], [(0, .var 25 (cv25 t))], 1, Fr.emp, [], 0⟩ (by kernel_rfl) ?_
    obtain ⟨v1, hx_6, h⟩ := bsome h
    refine RW.cut fokW 4 (⟨[(1, .ptr 0 0), (21, .d (.bool v1))], [(0, .var 25 (cv25 t))], 1, Fr.emp, [], 0⟩) ?_ ?_
    · refine r_split 17 rfl (fun hb_8 => ?_) (fun hb_8 => ?_)
      · have h := ifT hb_8 hx_6
        refine RunC.auX 2 ⟨[(1, .ptr 0 0), (17, .d (.bool true)), (19, .d (I t.Back))], [(0, .var 25 (cv25 t))], 1, Fr.emp, [], 0⟩ (by kernel_rfl) ?_
        obtain ⟨r0_2, hx_7, h⟩ := bsome h
        refine r_call rfl rfl (k63 t.Back 1 60 _ hx_7) rfl rfl ?_
        refine RunC.auX 1 ⟨[(1, .ptr 0 0), (21, .d (.bool r0_2))], [(0, .var 25 (cv25 t))], 1, Fr.emp, [], 0⟩ (by kernel_rfl) ?_
        obtain rfl := Option.some.inj h
        refine RunC.finJ (Can.kp (by kernel_rfl))
      · have h := ifF hb_8 hx_6
        refine RunC.auX 4 ⟨[(1, .ptr 0 0), (21, .d (.bool false))], [(0, .var 25 (cv25 t))], 1, Fr.emp, [], 0⟩ (by kernel_rfl) ?_
        obtain rfl := Option.some.inj h
        refine RunC.finJ (Can.kp (by kernel_rfl))
    · refine RW.au fokW 1 [] ⟨[(1, .ptr 0 0), (3, .d (.bool v1))], [(0, .var 25 (cv25 t))], 1, Fr.emp, [], 0⟩ (by kernel_rfl) ?_
      refine RW.nil ?_
      refine hQ_1 _ ?_
      obtain ⟨r_, hx_9, h⟩ := bsome h
      refine AW.jnSK (fun (r_ : Bool) => ⟨[(1, .ptr 0 0), (3, .d (.bool r_))], [(0, .var 25 (cv25 t))], 1, Fr.emp, [], 0⟩) (c := r_) (fun K_9 hK_9 => ?_) ?_
      · have h := hx_9
        refine AW.sa fokW [] ⟨[(1, .ptr 0 0), (3, .d (.bool v1)), (24, .d (.bool (decide (t.Kind = 1))))], [(0, .var 25 (cv25 t))], 1, Fr.emp, [], 0⟩ (by kernel_rfl) ?_
        refine AW.cond rfl (fun hb_10 => ?_) (fun hb_10 => ?_)
        · have h := ifT hb_10 h
          refine AW.rw ?_
          refine RW.au fokW 2 [] ⟨[(1, .ptr 0 0), (26, .d (.bool v1))], [(0, .var 25 (cv25 t))], 1, Fr.emp, [], 0⟩ (by kernel_rfl) ?_
          obtain ⟨v2, hx_12, h⟩ := bsome h
          refine RW.cut fokW 4 (⟨[(1, .ptr 0 0), (30, .d (.bool v2))], [(0, .var 25 (cv25 t))], 1, Fr.emp, [], 0⟩) ?_ ?_
          · refine r_split 26 rfl (fun hb_14 => ?_) (fun hb_14 => ?_)
            · have h := ifT hb_14 hx_12
              refine RunC.auX 2 ⟨[(1, .ptr 0 0), (26, .d (.bool true)), (28, .d (I t.Radius))], [(0, .var 25 (cv25 t))], 1, Fr.emp, [], 0⟩ (by kernel_rfl) ?_
              obtain ⟨r0_3, hx_13, h⟩ := bsome h
              refine r_call rfl rfl (k63 t.Radius 1 120 _ hx_13) rfl rfl ?_
              refine RunC.auX 1 ⟨[(1, .ptr 0 0), (30, .d (.bool r0_3))], [(0, .var 25 (cv25 t))], 1, Fr.emp, [], 0⟩ (by kernel_rfl) ?_
              obtain rfl := Option.some.inj h
              refine RunC.finJ (Can.kp (by kernel_rfl))
            · have h := ifF hb_14 hx_12
              refine RunC.auX 4 ⟨[(1, .ptr 0 0), (30, .d (.bool false))], [(0, .var 25 (cv25 t))], 1, Fr.emp, [], 0⟩ (by kernel_rfl) ?_
              obtain rfl := Option.some.inj h
              refine RunC.finJ (Can.kp (by kernel_rfl))
          · refine RW.au fokW 1 [] ⟨[(1, .ptr 0 0), (3, .d (.bool v2))], [(0, .var 25 (cv25 t))], 1, Fr.emp, [], 0⟩ (by kernel_rfl) ?_
            refine RW.nil ?_
            obtain rfl := Option.some.inj h
            exact hK_9 _ (Can.kp (by kernel_rfl))
        · have h := ifF hb_10 h
          refine AW.ra fokW [32] ⟨[(1, .ptr 0 0), (3, .d (.bool (v1 && (decide (t.Radius = 0)))))], [(0, .var 25 (cv25 t))], 1, Fr.emp, [], 0⟩ (by kernel_rfl) ?_
          obtain rfl := Option.some.inj h
          exact hK_9 _ (Can.kp (by kernel_rfl))
      · refine AW.srwK (fun Q_15 hQ_15 => ?_)
        refine RW.au fokW 2 [] ⟨[(1, .ptr 0 0), (38, .d (.bool r_))], [(0, .var 25 (cv25 t))], 1, Fr.emp, [], 0⟩ (by kernel_rfl) ?_
        obtain ⟨v3, hx_16, h⟩ := bsome h
        refine RW.cut fokW 5 (⟨[(1, .ptr 0 0), (43, .d (.bool v3))], [(0, .var 25 (cv25 t))], 1, Fr.emp, [], 0⟩) ?_ ?_
        · refine r_split 38 rfl (fun hb_18 => ?_) (fun hb_18 => ?_)
          · have h := ifT hb_18 hx_16
            refine RunC.auX 2 ⟨[(1, .ptr 0 0), (38, .d (.bool true)), (40, .d (.sl 4 (List.map e70 t.Parts)))], [(0, .var 25 (cv25 t))], 1, Fr.emp, [], 0⟩ (by kernel_rfl) ?_
            refine r_lenX rfl rfl lenm ?_
            obtain ⟨r0_4, hx_17, h⟩ := bsome h
            refine r_call rfl rfl (k63 (t.Parts.length : Int) 1 4 _ hx_17) rfl rfl ?_
            refine RunC.auX 1 ⟨[(1, .ptr 0 0), (43, .d (.bool r0_4))], [(0, .var 25 (cv25 t))], 1, Fr.emp, [], 0⟩ (by kernel_rfl) ?_
            obtain rfl := Option.some.inj h
            refine RunC.finJ (Can.kp (by kernel_rfl))
          · have h := ifF hb_18 hx_16
            refine RunC.auX 5 ⟨[(1, .ptr 0 0), (43, .d (.bool false))], [(0, .var 25 (cv25 t))], 1, Fr.emp, [], 0⟩ (by kernel_rfl) ?_
            obtain rfl := Option.some.inj h
            refine RunC.finJ (Can.kp (by kernel_rfl))
        · refine RW.au fokW 1 [] ⟨[(1, .ptr 0 0), (44, .d (.bool v3))], [(0, .var 25 (cv25 t))], 1, Fr.emp, [], 0⟩ (by kernel_rfl) ?_
          obtain ⟨v4, hx_19, h⟩ := bsome h
          refine RW.cut fokW 4 (⟨[(1, .ptr 0 0), (48, .d (.bool v4))], [(0, .var 25 (cv25 t))], 1, Fr.emp, [], 0⟩) ?_ ?_
          · refine r_split 44 rfl (fun hb_21 => ?_) (fun hb_21 => ?_)
            · have h := ifT hb_21 hx_19
              refine RunC.auX 2 ⟨[(1, .ptr 0 0), (44, .d (.bool true)), (46, .d (I t.Along))], [(0, .var 25 (cv25 t))], 1, Fr.emp, [], 0⟩ (by kernel_rfl) ?_
              obtain ⟨r0_5, hx_20, h⟩ := bsome h
              refine r_call rfl rfl (k63 t.Along (-60) 60 _ hx_20) rfl rfl ?_
              refine RunC.auX 1 ⟨[(1, .ptr 0 0), (48, .d (.bool r0_5))], [(0, .var 25 (cv25 t))], 1, Fr.emp, [], 0⟩ (by kernel_rfl) ?_
              obtain rfl := Option.some.inj h
              refine RunC.finJ (Can.kp (by kernel_rfl))
            · have h := ifF hb_21 hx_19
              refine RunC.auX 4 ⟨[(1, .ptr 0 0), (48, .d (.bool false))], [(0, .var 25 (cv25 t))], 1, Fr.emp, [], 0⟩ (by kernel_rfl) ?_
              obtain rfl := Option.some.inj h
              refine RunC.finJ (Can.kp (by kernel_rfl))
          · refine RW.au fokW 1 [] ⟨[(1, .ptr 0 0), (49, .d (.bool v4))], [(0, .var 25 (cv25 t))], 1, Fr.emp, [], 0⟩ (by kernel_rfl) ?_
            obtain ⟨v5, hx_22, h⟩ := bsome h
            refine RW.cut fokW 4 (⟨[(1, .ptr 0 0), (53, .d (.bool v5))], [(0, .var 25 (cv25 t))], 1, Fr.emp, [], 0⟩) ?_ ?_
            · refine r_split 49 rfl (fun hb_24 => ?_) (fun hb_24 => ?_)
              · have h := ifT hb_24 hx_22
                refine RunC.auX 2 ⟨[(1, .ptr 0 0), (49, .d (.bool true)), (51, .d (I t.High))], [(0, .var 25 (cv25 t))], 1, Fr.emp, [], 0⟩ (by kernel_rfl) ?_
                obtain ⟨r0_6, hx_23, h⟩ := bsome h
                refine r_call rfl rfl (k63 t.High 0 60 _ hx_23) rfl rfl ?_
                refine RunC.auX 1 ⟨[(1, .ptr 0 0), (53, .d (.bool r0_6))], [(0, .var 25 (cv25 t))], 1, Fr.emp, [], 0⟩ (by kernel_rfl) ?_
                obtain rfl := Option.some.inj h
                refine RunC.finJ (Can.kp (by kernel_rfl))
              · have h := ifF hb_24 hx_22
                refine RunC.auX 4 ⟨[(1, .ptr 0 0), (53, .d (.bool false))], [(0, .var 25 (cv25 t))], 1, Fr.emp, [], 0⟩ (by kernel_rfl) ?_
                obtain rfl := Option.some.inj h
                refine RunC.finJ (Can.kp (by kernel_rfl))
            · refine RW.au fokW 1 [] ⟨[(1, .ptr 0 0), (3, .d (.bool v5))], [(0, .var 25 (cv25 t))], 1, Fr.emp, [], 0⟩ (by kernel_rfl) ?_
              refine RW.nil ?_
              refine hQ_15 _ ?_
              refine AW.srwK (fun Q_25 hQ_25 => ?_)
              refine RW.au fokW 2 [] ⟨[(1, .ptr 0 0), (55, .d (.bool v5))], [(0, .var 25 (cv25 t))], 1, Fr.emp, [], 0⟩ (by kernel_rfl) ?_
              obtain ⟨v6, hx_26, h⟩ := bsome h
              refine RW.cut fokW 4 (⟨[(1, .ptr 0 0), (59, .d (.bool v6))], [(0, .var 25 (cv25 t))], 1, Fr.emp, [], 0⟩) ?_ ?_
              · refine r_split 55 rfl (fun hb_28 => ?_) (fun hb_28 => ?_)
                · have h := ifT hb_28 hx_26
                  refine RunC.auX 2 ⟨[(1, .ptr 0 0), (55, .d (.bool true)), (57, .d (I t.Lean_))], [(0, .var 25 (cv25 t))], 1, Fr.emp, [], 0⟩ (by kernel_rfl) ?_
                  obtain ⟨r0_7, hx_27, h⟩ := bsome h
                  refine r_call rfl rfl (k63 t.Lean_ 0 12 _ hx_27) rfl rfl ?_
                  refine RunC.auX 1 ⟨[(1, .ptr 0 0), (59, .d (.bool r0_7))], [(0, .var 25 (cv25 t))], 1, Fr.emp, [], 0⟩ (by kernel_rfl) ?_
                  obtain rfl := Option.some.inj h
                  refine RunC.finJ (Can.kp (by kernel_rfl))
                · have h := ifF hb_28 hx_26
                  refine RunC.auX 4 ⟨[(1, .ptr 0 0), (59, .d (.bool false))], [(0, .var 25 (cv25 t))], 1, Fr.emp, [], 0⟩ (by kernel_rfl) ?_
                  obtain rfl := Option.some.inj h
                  refine RunC.finJ (Can.kp (by kernel_rfl))
              · refine RW.au fokW 1 [] ⟨[(1, .ptr 0 0), (60, .d (.bool v6))], [(0, .var 25 (cv25 t))], 1, Fr.emp, [], 0⟩ (by kernel_rfl) ?_
                obtain ⟨v7, hx_29, h⟩ := bsome h
                refine RW.cut fokW 4 (⟨[(1, .ptr 0 0), (64, .d (.bool v7))], [(0, .var 25 (cv25 t))], 1, Fr.emp, [], 0⟩) ?_ ?_
                · refine r_split 60 rfl (fun hb_31 => ?_) (fun hb_31 => ?_)
                  · have h := ifT hb_31 hx_29
                    refine RunC.auX 2 ⟨[(1, .ptr 0 0), (60, .d (.bool true)), (62, .d (I t.Limit))], [(0, .var 25 (cv25 t))], 1, Fr.emp, [], 0⟩ (by kernel_rfl) ?_
                    obtain ⟨r0_8, hx_30, h⟩ := bsome h
                    refine r_call rfl rfl (k63 t.Limit 1 60 _ hx_30) rfl rfl ?_
                    refine RunC.auX 1 ⟨[(1, .ptr 0 0), (64, .d (.bool r0_8))], [(0, .var 25 (cv25 t))], 1, Fr.emp, [], 0⟩ (by kernel_rfl) ?_
                    obtain rfl := Option.some.inj h
                    refine RunC.finJ (Can.kp (by kernel_rfl))
                  · have h := ifF hb_31 hx_29
                    refine RunC.auX 4 ⟨[(1, .ptr 0 0), (64, .d (.bool false))], [(0, .var 25 (cv25 t))], 1, Fr.emp, [], 0⟩ (by kernel_rfl) ?_
                    obtain rfl := Option.some.inj h
                    refine RunC.finJ (Can.kp (by kernel_rfl))
                · refine RW.au fokW 1 [] ⟨[(1, .ptr 0 0), (65, .d (.bool v7))], [(0, .var 25 (cv25 t))], 1, Fr.emp, [], 0⟩ (by kernel_rfl) ?_
                  obtain ⟨v8, hx_32, h⟩ := bsome h
                  refine RW.cut fokW 5 (⟨[(1, .ptr 0 0), (70, .d (.bool v8))], [(0, .var 25 (cv25 t))], 1, Fr.emp, [], 0⟩) ?_ ?_
                  · refine r_split 65 rfl (fun hb_33 => ?_) (fun hb_33 => ?_)
                    · have h := ifT hb_33 hx_32
                      refine RunC.auX 2 ⟨[(1, .ptr 0 0), (65, .d (.bool true)), (67, .d (.sl 3 (List.map e65 t.Trials)))], [(0, .var 25 (cv25 t))], 1, Fr.emp, [], 0⟩ (by kernel_rfl) ?_
                      refine r_lenX rfl rfl lenm ?_
                      refine RunC.auX 2 ⟨[(1, .ptr 0 0), (70, .d (.bool (decide ((t.Trials.length : Int) ≤ 5))))], [(0, .var 25 (cv25 t))], 1, Fr.emp, [], 0⟩ (by kernel_rfl) ?_
                      obtain rfl := Option.some.inj h
                      refine RunC.finJ (Can.kp (by kernel_rfl))
                    · have h := ifF hb_33 hx_32
                      refine RunC.auX 5 ⟨[(1, .ptr 0 0), (70, .d (.bool false))], [(0, .var 25 (cv25 t))], 1, Fr.emp, [], 0⟩ (by kernel_rfl) ?_
                      obtain rfl := Option.some.inj h
                      refine RunC.finJ (Can.kp (by kernel_rfl))
                  · refine RW.au fokW 1 [] ⟨[(1, .ptr 0 0), (3, .d (.bool v8))], [(0, .var 25 (cv25 t))], 1, Fr.emp, [], 0⟩ (by kernel_rfl) ?_
                    refine RW.nil ?_
                    refine hQ_25 _ ?_
                    refine AW.seqK (fun K_34 hK_34 => ?_)
                    refine AW.srwK (fun Q_35 hQ_35 => ?_)
                    refine RW.au fokW 2 [] ⟨[(1, .ptr 0 0), (3, .d (.bool v8)), (72, .d (.sl 4 (List.map e70 t.Parts)))], [(0, .var 25 (cv25 t))], 1, Fr.emp, [], 0⟩ (by kernel_rfl) ?_
                    refine RW.one fokW (r_lenX trivial rfl lenm (r_end ?_))
                    refine RW.au fokW 1 [] ⟨[(1, .ptr 0 0), (3, .d (.bool v8)), (72, .d (.sl 4 (List.map e70 t.Parts))), (73, .d (I (t.Parts.length : Int))), (74, .d (I 0))], [(0, .var 25 (cv25 t))], 1, Fr.emp, [], 0⟩ (by kernel_rfl) ?_
                    refine RW.nil ?_
                    refine hQ_35 _ ?_
                    refine AW.block ?_
                    refine AW.sln (t := 72) rfl (fun hN_36 => ?_)
                    rw [List.length_map] at hN_36
                    obtain ⟨out_36, hx_36, h⟩ := bsome h
                    refine AW.evSK (fun (v9 : Int) (r_1 : Bool) => ⟨[(1, .ptr 0 0), (3, .d (.bool r_1)), (72, .d (.sl 4 (List.map e70 t.Parts))), (73, .d (I (t.Parts.length : Int))), (74, .d (I v9))], [(0, .var 25 (cv25 t))], 1, Fr.emp, [], 0⟩) g18_36 hx_36 (Can.kp (by kernel_rfl)) (fun v9 p r_1 hi_36 hl_36 hp_36 c_36 h K_36 hK_36 => ?_) (fun v9 r_1 hi_36 hl_36 hout => ?_)
                    · unfold g18_36 at h
                      refine AW.sa fokW [] ⟨[(1, .ptr 0 0), (3, .d (.bool r_1)), (72, .d (.sl 4 (List.map e70 t.Parts))), (73, .d (I (t.Parts.length : Int))), (74, .d (I v9)), (75, .d (.bool (decide (v9 < (t.Parts.length : Int)))))], [(0, .var 25 (cv25 t))], 1, Fr.emp, [], 0⟩ (by kernel_rfl) ?_
                      refine AW.seqK (fun K_37 hK_37 => ?_)
                      refine AW.cond rfl (fun hb_38 => ?_) (fun hb_38 => False.elim (by have := of_decide_eq_false hb_38; omega))
                      refine AW.skip ?_
                      refine hK_37 _ ?_
                      refine AW.seqK (fun K_39 hK_39 => ?_)
                      refine AW.block ?_
                      refine AW.srwK (fun Q_40 hQ_40 => ?_)
                      refine RW.one fokW (r_iaD trivial rfl rfl hi_36 (row := e70 p) (mapget hp_36) (r_end ?_))
                      refine RW.au fokW 3 [] ⟨[(1, .ptr 0 0), (3, .d (.bool r_1)), (5, .ptr 1 0), (72, .d (.sl 4 (List.map e70 t.Parts))), (73, .d (I (t.Parts.length : Int))), (74, .d (I v9))], [(1, .var 70 (cv70 p)), (0, .var 25 (cv25 t))], 2, Fr.emp, [], 0⟩ (by kernel_rfl) ?_
                      refine RW.nil ?_
                      refine hQ_40 _ ?_
                      refine AW.sa fokW [] ⟨[(1, .ptr 0 0), (3, .d (.bool r_1)), (5, .ptr 1 0), (6, .ptr 2 0), (72, .d (.sl 4 (List.map e70 t.Parts))), (73, .d (I (t.Parts.length : Int))), (74, .d (I v9))], [(2, .var 42 [.d (I p.Weight.Low), .d (I p.Weight.High)]), (1, .var 70 (cv70 p)), (0, .var 25 (cv25 t))], 3, Fr.emp, [], 0⟩ (by kernel_rfl) ?_
                      refine AW.srwK (fun Q_41 hQ_41 => ?_)
                      refine RW.au fokW 2 [] ⟨[(1, .ptr 0 0), (5, .ptr 1 0), (6, .ptr 2 0), (72, .d (.sl 4 (List.map e70 t.Parts))), (73, .d (I (t.Parts.length : Int))), (74, .d (I v9)), (81, .d (.bool r_1))], [(2, .var 42 [.d (I p.Weight.Low), .d (I p.Weight.High)]), (1, .var 70 (cv70 p)), (0, .var 25 (cv25 t))], 3, Fr.emp, [], 0⟩ (by kernel_rfl) ?_
                      obtain ⟨v10, hx_42, h⟩ := bsome h
                      refine RW.cut fokW 6 (⟨[(1, .ptr 0 0), (5, .ptr 1 0), (6, .ptr 2 0), (72, .d (.sl 4 (List.map e70 t.Parts))), (73, .d (I (t.Parts.length : Int))), (74, .d (I v9)), (87, .d (.bool v10))], [(2, .var 42 [.d (I p.Weight.Low), .d (I p.Weight.High)]), (1, .var 70 (cv70 p)), (0, .var 25 (cv25 t))], 3, Fr.emp, [], 0⟩) ?_ ?_
                      · refine r_split 81 rfl (fun hb_44 => ?_) (fun hb_44 => ?_)
                        · have h := ifT hb_44 hx_42
                          refine RunC.auX 4 ⟨[(1, .ptr 0 0), (5, .ptr 1 0), (6, .ptr 2 0), (72, .d (.sl 4 (List.map e70 t.Parts))), (73, .d (I (t.Parts.length : Int))), (74, .d (I v9)), (81, .d (.bool true)), (82, .ptr 2 0), (83, .d (I p.Weight.Low)), (84, .ptr 2 1), (85, .d (I p.Weight.High))], [(2, .var 42 [.d (I p.Weight.Low), .d (I p.Weight.High)]), (1, .var 70 (cv70 p)), (0, .var 25 (cv25 t))], 3, Fr.emp, [], 0⟩ (by kernel_rfl) ?_
                          obtain ⟨r0_9, hx_43, h⟩ := bsome h
                          refine r_call rfl rfl (k63 p.Weight.Low 1 p.Weight.High _ hx_43) rfl rfl ?_
                          refine RunC.auX 1 ⟨[(1, .ptr 0 0), (5, .ptr 1 0), (6, .ptr 2 0), (72, .d (.sl 4 (List.map e70 t.Parts))), (73, .d (I (t.Parts.length : Int))), (74, .d (I v9)), (82, .ptr 2 0), (83, .d (I p.Weight.Low)), (84, .ptr 2 1), (85, .d (I p.Weight.High)), (86, .d (.bool r0_9)), (87, .d (.bool r0_9))], [(2, .var 42 [.d (I p.Weight.Low), .d (I p.Weight.High)]), (1, .var 70 (cv70 p)), (0, .var 25 (cv25 t))], 3, Fr.emp, [], 0⟩ (by kernel_rfl) ?_
                          obtain rfl := Option.some.inj h
                          refine RunC.finJ (Can.kp (by kernel_rfl))
                        · have h := ifF hb_44 hx_42
                          refine RunC.auX 6 ⟨[(1, .ptr 0 0), (5, .ptr 1 0), (6, .ptr 2 0), (72, .d (.sl 4 (List.map e70 t.Parts))), (73, .d (I (t.Parts.length : Int))), (74, .d (I v9)), (82, .undef), (83, .undef), (84, .undef), (85, .undef), (86, .undef), (87, .d (.bool false))], [(2, .var 42 [.d (I p.Weight.Low), .d (I p.Weight.High)]), (1, .var 70 (cv70 p)), (0, .var 25 (cv25 t))], 3, Fr.emp, [], 0⟩ (by kernel_rfl) ?_
                          obtain rfl := Option.some.inj h
                          refine RunC.finJ (Can.kp (by kernel_rfl))
                      · refine RW.au fokW 14 [88, 93] ⟨[(1, .ptr 0 0), (3, .d (.bool ((v10 && (decide (p.Weight.High ≤ 99))) && (decide ((wr (p.Weight.High - p.Weight.Low)) ≤ 4))))), (5, .ptr 1 0), (72, .d (.sl 4 (List.map e70 t.Parts))), (73, .d (I (t.Parts.length : Int))), (74, .d (I v9))], [(1, .var 70 (cv70 p)), (0, .var 25 (cv25 t))], 3, Fr.emp, [], 0⟩ (by kernel_rfl) ?_
                        refine RW.nil ?_
                        refine hQ_41 _ ?_
                        refine AW.rw ?_
                        refine RW.au fokW 2 [] ⟨[(1, .ptr 0 0), (5, .ptr 1 0), (72, .d (.sl 4 (List.map e70 t.Parts))), (73, .d (I (t.Parts.length : Int))), (74, .d (I v9)), (102, .d (.bool ((v10 && (decide (p.Weight.High ≤ 99))) && (decide ((wr (p.Weight.High - p.Weight.Low)) ≤ 4)))))], [(1, .var 70 (cv70 p)), (0, .var 25 (cv25 t))], 3, Fr.emp, [], 0⟩ (by kernel_rfl) ?_
                        obtain ⟨v11, hx_46, h⟩ := bsome h
                        refine RW.cut fokW 4 (⟨[(1, .ptr 0 0), (5, .ptr 1 0), (72, .d (.sl 4 (List.map e70 t.Parts))), (73, .d (I (t.Parts.length : Int))), (74, .d (I v9)), (106, .d (.bool v11))], [(1, .var 70 (cv70 p)), (0, .var 25 (cv25 t))], 2, Fr.emp, [], 0⟩) ?_ ?_
                        · refine r_split 102 rfl (fun hb_48 => ?_) (fun hb_48 => ?_)
                          · have h := ifT hb_48 hx_46
                            refine RunC.auX 2 ⟨[(1, .ptr 0 0), (5, .ptr 1 0), (72, .d (.sl 4 (List.map e70 t.Parts))), (73, .d (I (t.Parts.length : Int))), (74, .d (I v9)), (102, .d (.bool true)), (103, .ptr 1 2), (104, .d (I p.Along))], [(1, .var 70 (cv70 p)), (0, .var 25 (cv25 t))], 3, Fr.emp, [], 0⟩ (by kernel_rfl) ?_
                            obtain ⟨r0_10, hx_47, h⟩ := bsome h
                            refine r_call rfl rfl (k63 p.Along (-60) 60 _ hx_47) rfl rfl ?_
                            refine RunC.auX 1 ⟨[(1, .ptr 0 0), (5, .ptr 1 0), (72, .d (.sl 4 (List.map e70 t.Parts))), (73, .d (I (t.Parts.length : Int))), (74, .d (I v9)), (103, .ptr 1 2), (104, .d (I p.Along)), (105, .d (.bool r0_10)), (106, .d (.bool r0_10))], [(1, .var 70 (cv70 p)), (0, .var 25 (cv25 t))], 3, Fr.emp, [], 0⟩ (by kernel_rfl) ?_
                            obtain rfl := Option.some.inj h
                            refine RunC.finJ (Can.kp (by kernel_rfl))
                          · have h := ifF hb_48 hx_46
                            refine RunC.auX 4 ⟨[(1, .ptr 0 0), (5, .ptr 1 0), (72, .d (.sl 4 (List.map e70 t.Parts))), (73, .d (I (t.Parts.length : Int))), (74, .d (I v9)), (103, .undef), (104, .undef), (105, .undef), (106, .d (.bool false))], [(1, .var 70 (cv70 p)), (0, .var 25 (cv25 t))], 3, Fr.emp, [], 0⟩ (by kernel_rfl) ?_
                            obtain rfl := Option.some.inj h
                            refine RunC.finJ (Can.kp (by kernel_rfl))
                        · refine RW.au fokW 1 [] ⟨[(1, .ptr 0 0), (5, .ptr 1 0), (72, .d (.sl 4 (List.map e70 t.Parts))), (73, .d (I (t.Parts.length : Int))), (74, .d (I v9)), (107, .d (.bool v11))], [(1, .var 70 (cv70 p)), (0, .var 25 (cv25 t))], 2, Fr.emp, [], 0⟩ (by kernel_rfl) ?_
                          obtain ⟨v12, hx_49, h⟩ := bsome h
                          refine RW.cut fokW 4 (⟨[(1, .ptr 0 0), (72, .d (.sl 4 (List.map e70 t.Parts))), (73, .d (I (t.Parts.length : Int))), (74, .d (I v9)), (111, .d (.bool v12))], [(0, .var 25 (cv25 t))], 1, Fr.emp, [], 0⟩) ?_ ?_
                          · refine r_split 107 rfl (fun hb_51 => ?_) (fun hb_51 => ?_)
                            · have h := ifT hb_51 hx_49
                              refine RunC.auX 2 ⟨[(1, .ptr 0 0), (72, .d (.sl 4 (List.map e70 t.Parts))), (73, .d (I (t.Parts.length : Int))), (74, .d (I v9)), (107, .d (.bool true)), (108, .ptr 1 3), (109, .d (I p.High))], [(1, .var 70 (cv70 p)), (0, .var 25 (cv25 t))], 2, Fr.emp, [], 0⟩ (by kernel_rfl) ?_
                              obtain ⟨r0_11, hx_50, h⟩ := bsome h
                              refine r_call rfl rfl (k63 p.High 0 60 _ hx_50) rfl rfl ?_
                              refine RunC.auX 1 ⟨[(1, .ptr 0 0), (72, .d (.sl 4 (List.map e70 t.Parts))), (73, .d (I (t.Parts.length : Int))), (74, .d (I v9)), (108, .ptr 1 3), (109, .d (I p.High)), (110, .d (.bool r0_11)), (111, .d (.bool r0_11))], [(1, .var 70 (cv70 p)), (0, .var 25 (cv25 t))], 2, Fr.emp, [], 0⟩ (by kernel_rfl) ?_
                              obtain rfl := Option.some.inj h
                              refine RunC.finJ (Can.kp (by kernel_rfl))
                            · have h := ifF hb_51 hx_49
                              refine RunC.auX 4 ⟨[(1, .ptr 0 0), (72, .d (.sl 4 (List.map e70 t.Parts))), (73, .d (I (t.Parts.length : Int))), (74, .d (I v9)), (108, .undef), (109, .undef), (110, .undef), (111, .d (.bool false))], [(1, .var 70 (cv70 p)), (0, .var 25 (cv25 t))], 2, Fr.emp, [], 0⟩ (by kernel_rfl) ?_
                              obtain rfl := Option.some.inj h
                              refine RunC.finJ (Can.kp (by kernel_rfl))
                          · refine RW.au fokW 1 [] ⟨[(1, .ptr 0 0), (3, .d (.bool v12)), (72, .d (.sl 4 (List.map e70 t.Parts))), (73, .d (I (t.Parts.length : Int))), (74, .d (I v9))], [(0, .var 25 (cv25 t))], 1, Fr.emp, [], 0⟩ (by kernel_rfl) ?_
                            refine RW.nil ?_
                            refine hK_39 _ ?_
                            refine AW.ra fokW [] ⟨[(1, .ptr 0 0), (3, .d (.bool v12)), (72, .d (.sl 4 (List.map e70 t.Parts))), (73, .d (I (t.Parts.length : Int))), (74, .d (I (wr (v9 + 1))))], [(0, .var 25 (cv25 t))], 1, Fr.emp, [], 0⟩ (by kernel_rfl) ?_
                            obtain rfl := Option.some.inj h
                            have ew : wr (v9 + 1) = v9 + 1 := inext (N := (t.Parts.length : Int)) (by omega) (by omega) (by omega)
                            rw [ew]
                            exact hK_36 _ (Can.kp (by kernel_rfl))
                    · subst hout
                      refine AW.sa fokW [] ⟨[(1, .ptr 0 0), (3, .d (.bool r_1)), (72, .d (.sl 4 (List.map e70 t.Parts))), (73, .d (I (t.Parts.length : Int))), (74, .d (I v9)), (75, .d (.bool (decide (v9 < (t.Parts.length : Int)))))], [(0, .var 25 (cv25 t))], 1, Fr.emp, [], 0⟩ (by kernel_rfl) ?_
                      refine AW.seqK (fun K_52 hK_52 => ?_)
                      refine AW.cond rfl (fun hb_53 => False.elim (by have := of_decide_eq_true hb_53; omega)) (fun hb_53 => ?_)
                      refine AW.exit ?_
                      refine hK_34 _ ?_
                      refine AW.seqK (fun K_54 hK_54 => ?_)
                      refine AW.srwK (fun Q_55 hQ_55 => ?_)
                      refine RW.au fokW 2 [] ⟨[(1, .ptr 0 0), (3, .d (.bool r_1)), (114, .d (.sl 3 (List.map e65 t.Trials)))], [(0, .var 25 (cv25 t))], 1, Fr.emp, [], 0⟩ (by kernel_rfl) ?_
                      refine RW.one fokW (r_lenX trivial rfl lenm (r_end ?_))
                      refine RW.au fokW 1 [] ⟨[(1, .ptr 0 0), (3, .d (.bool r_1)), (114, .d (.sl 3 (List.map e65 t.Trials))), (115, .d (I (t.Trials.length : Int))), (116, .d (I 0))], [(0, .var 25 (cv25 t))], 1, Fr.emp, [], 0⟩ (by kernel_rfl) ?_
                      refine RW.nil ?_
                      refine hQ_55 _ ?_
                      refine AW.block ?_
                      refine AW.sln (t := 114) rfl (fun hN_56 => ?_)
                      rw [List.length_map] at hN_56
                      obtain ⟨out_56, hx_56, h⟩ := bsome h
                      refine AW.evSK (fun (v13 : Int) (r_2 : Bool) => ⟨[(1, .ptr 0 0), (3, .d (.bool r_2)), (114, .d (.sl 3 (List.map e65 t.Trials))), (115, .d (I (t.Trials.length : Int))), (116, .d (I v13))], [(0, .var 25 (cv25 t))], 1, Fr.emp, [], 0⟩) (g18_56 t) hx_56 (Can.kp (by kernel_rfl)) (fun v13 p1 r_2 hi_56 hl_56 hp_56 c_56 h K_56 hK_56 => ?_) (fun v13 r_2 hi_56 hl_56 hout => ?_)
                      · unfold g18_56 at h
                        refine AW.sa fokW [] ⟨[(1, .ptr 0 0), (3, .d (.bool r_2)), (114, .d (.sl 3 (List.map e65 t.Trials))), (115, .d (I (t.Trials.length : Int))), (116, .d (I v13)), (117, .d (.bool (decide (v13 < (t.Trials.length : Int)))))], [(0, .var 25 (cv25 t))], 1, Fr.emp, [], 0⟩ (by kernel_rfl) ?_
                        refine AW.seqK (fun K_57 hK_57 => ?_)
                        refine AW.cond rfl (fun hb_58 => ?_) (fun hb_58 => False.elim (by have := of_decide_eq_false hb_58; omega))
                        refine AW.skip ?_
                        refine hK_57 _ ?_
                        refine AW.seqK (fun K_59 hK_59 => ?_)
                        refine AW.block ?_
                        refine AW.srwK (fun Q_60 hQ_60 => ?_)
                        refine RW.one fokW (r_iaD trivial rfl rfl hi_56 (row := e65 p1) (mapget hp_56) (r_end ?_))
                        refine RW.au fokW 3 [] ⟨[(1, .ptr 0 0), (3, .d (.bool r_2)), (8, .ptr 1 0), (114, .d (.sl 3 (List.map e65 t.Trials))), (115, .d (I (t.Trials.length : Int))), (116, .d (I v13))], [(1, .var 65 [.d (I p1.Weight), .d (I p1.Lean_), .d (.bool p1.Tipped)]), (0, .var 25 (cv25 t))], 2, Fr.emp, [], 0⟩ (by kernel_rfl) ?_
                        refine RW.nil ?_
                        refine hQ_60 _ ?_
                        refine AW.rw ?_
                        refine RW.au fokW 2 [] ⟨[(1, .ptr 0 0), (8, .ptr 1 0), (114, .d (.sl 3 (List.map e65 t.Trials))), (115, .d (I (t.Trials.length : Int))), (116, .d (I v13)), (121, .d (.bool r_2))], [(1, .var 65 [.d (I p1.Weight), .d (I p1.Lean_), .d (.bool p1.Tipped)]), (0, .var 25 (cv25 t))], 2, Fr.emp, [], 0⟩ (by kernel_rfl) ?_
                        obtain ⟨v14, hx_62, h⟩ := bsome h
                        refine RW.cut fokW 6 (⟨[(1, .ptr 0 0), (8, .ptr 1 0), (114, .d (.sl 3 (List.map e65 t.Trials))), (115, .d (I (t.Trials.length : Int))), (116, .d (I v13)), (127, .d (.bool v14))], [(1, .var 65 [.d (I p1.Weight), .d (I p1.Lean_), .d (.bool p1.Tipped)]), (0, .var 25 (cv25 t))], 2, Fr.emp, [], 0⟩) ?_ ?_
                        · refine r_split 121 rfl (fun hb_64 => ?_) (fun hb_64 => ?_)
                          · have h := ifT hb_64 hx_62
                            refine RunC.auX 4 ⟨[(1, .ptr 0 0), (8, .ptr 1 0), (114, .d (.sl 3 (List.map e65 t.Trials))), (115, .d (I (t.Trials.length : Int))), (116, .d (I v13)), (121, .d (.bool true)), (122, .ptr 1 0), (123, .d (I p1.Weight)), (124, .ptr 0 8), (125, .d (I t.Limit))], [(1, .var 65 [.d (I p1.Weight), .d (I p1.Lean_), .d (.bool p1.Tipped)]), (0, .var 25 (cv25 t))], 2, Fr.emp, [], 0⟩ (by kernel_rfl) ?_
                            obtain ⟨r0_12, hx_63, h⟩ := bsome h
                            refine r_call rfl rfl (k63 p1.Weight 1 t.Limit _ hx_63) rfl rfl ?_
                            refine RunC.auX 1 ⟨[(1, .ptr 0 0), (8, .ptr 1 0), (114, .d (.sl 3 (List.map e65 t.Trials))), (115, .d (I (t.Trials.length : Int))), (116, .d (I v13)), (122, .ptr 1 0), (123, .d (I p1.Weight)), (124, .ptr 0 8), (125, .d (I t.Limit)), (126, .d (.bool r0_12)), (127, .d (.bool r0_12))], [(1, .var 65 [.d (I p1.Weight), .d (I p1.Lean_), .d (.bool p1.Tipped)]), (0, .var 25 (cv25 t))], 2, Fr.emp, [], 0⟩ (by kernel_rfl) ?_
                            obtain rfl := Option.some.inj h
                            refine RunC.finJ (Can.kp (by kernel_rfl))
                          · have h := ifF hb_64 hx_62
                            refine RunC.auX 6 ⟨[(1, .ptr 0 0), (8, .ptr 1 0), (114, .d (.sl 3 (List.map e65 t.Trials))), (115, .d (I (t.Trials.length : Int))), (116, .d (I v13)), (122, .undef), (123, .undef), (124, .undef), (125, .undef), (126, .undef), (127, .d (.bool false))], [(1, .var 65 [.d (I p1.Weight), .d (I p1.Lean_), .d (.bool p1.Tipped)]), (0, .var 25 (cv25 t))], 2, Fr.emp, [], 0⟩ (by kernel_rfl) ?_
                            obtain rfl := Option.some.inj h
                            refine RunC.finJ (Can.kp (by kernel_rfl))
                        · refine RW.au fokW 1 [] ⟨[(1, .ptr 0 0), (8, .ptr 1 0), (114, .d (.sl 3 (List.map e65 t.Trials))), (115, .d (I (t.Trials.length : Int))), (116, .d (I v13)), (128, .d (.bool v14))], [(1, .var 65 [.d (I p1.Weight), .d (I p1.Lean_), .d (.bool p1.Tipped)]), (0, .var 25 (cv25 t))], 2, Fr.emp, [], 0⟩ (by kernel_rfl) ?_
                          obtain ⟨v15, hx_65, h⟩ := bsome h
                          refine RW.cut fokW 9 (⟨[(1, .ptr 0 0), (114, .d (.sl 3 (List.map e65 t.Trials))), (115, .d (I (t.Trials.length : Int))), (116, .d (I v13)), (137, .d (.bool v15))], [(0, .var 25 (cv25 t))], 1, Fr.emp, [], 0⟩) ?_ ?_
                          · refine r_split 128 rfl (fun hb_67 => ?_) (fun hb_67 => ?_)
                            · have h := ifT hb_67 hx_65
                              refine RunC.auX 7 ⟨[(1, .ptr 0 0), (114, .d (.sl 3 (List.map e65 t.Trials))), (115, .d (I (t.Trials.length : Int))), (116, .d (I v13)), (128, .d (.bool true)), (129, .ptr 1 1), (130, .d (I p1.Lean_)), (131, .ptr 0 7), (132, .d (I t.Lean_)), (133, .d (I (wr (-t.Lean_)))), (134, .ptr 0 7), (135, .d (I t.Lean_))], [(1, .var 65 [.d (I p1.Weight), .d (I p1.Lean_), .d (.bool p1.Tipped)]), (0, .var 25 (cv25 t))], 2, Fr.emp, [], 0⟩ (by kernel_rfl) ?_
                              obtain ⟨r0_13, hx_66, h⟩ := bsome h
                              refine r_call rfl rfl (k63 p1.Lean_ (wr (-t.Lean_)) t.Lean_ _ hx_66) rfl rfl ?_
                              refine RunC.auX 1 ⟨[(1, .ptr 0 0), (114, .d (.sl 3 (List.map e65 t.Trials))), (115, .d (I (t.Trials.length : Int))), (116, .d (I v13)), (129, .ptr 1 1), (130, .d (I p1.Lean_)), (131, .ptr 0 7), (132, .d (I t.Lean_)), (133, .d (I (wr (-t.Lean_)))), (134, .ptr 0 7), (135, .d (I t.Lean_)), (136, .d (.bool r0_13)), (137, .d (.bool r0_13))], [(1, .var 65 [.d (I p1.Weight), .d (I p1.Lean_), .d (.bool p1.Tipped)]), (0, .var 25 (cv25 t))], 2, Fr.emp, [], 0⟩ (by kernel_rfl) ?_
                              obtain rfl := Option.some.inj h
                              refine RunC.finJ (Can.kp (by kernel_rfl))
                            · have h := ifF hb_67 hx_65
                              refine RunC.auX 9 ⟨[(1, .ptr 0 0), (114, .d (.sl 3 (List.map e65 t.Trials))), (115, .d (I (t.Trials.length : Int))), (116, .d (I v13)), (129, .undef), (130, .undef), (131, .undef), (132, .undef), (133, .undef), (134, .undef), (135, .undef), (136, .undef), (137, .d (.bool false))], [(1, .var 65 [.d (I p1.Weight), .d (I p1.Lean_), .d (.bool p1.Tipped)]), (0, .var 25 (cv25 t))], 2, Fr.emp, [], 0⟩ (by kernel_rfl) ?_
                              obtain rfl := Option.some.inj h
                              refine RunC.finJ (Can.kp (by kernel_rfl))
                          · refine RW.au fokW 1 [] ⟨[(1, .ptr 0 0), (3, .d (.bool v15)), (114, .d (.sl 3 (List.map e65 t.Trials))), (115, .d (I (t.Trials.length : Int))), (116, .d (I v13))], [(0, .var 25 (cv25 t))], 1, Fr.emp, [], 0⟩ (by kernel_rfl) ?_
                            refine RW.nil ?_
                            refine hK_59 _ ?_
                            refine AW.ra fokW [] ⟨[(1, .ptr 0 0), (3, .d (.bool v15)), (114, .d (.sl 3 (List.map e65 t.Trials))), (115, .d (I (t.Trials.length : Int))), (116, .d (I (wr (v13 + 1))))], [(0, .var 25 (cv25 t))], 1, Fr.emp, [], 0⟩ (by kernel_rfl) ?_
                            obtain rfl := Option.some.inj h
                            have ew : wr (v13 + 1) = v13 + 1 := inext (N := (t.Trials.length : Int)) (by omega) (by omega) (by omega)
                            rw [ew]
                            exact hK_56 _ (Can.kp (by kernel_rfl))
                      · subst hout
                        refine AW.sa fokW [] ⟨[(1, .ptr 0 0), (3, .d (.bool r_2)), (114, .d (.sl 3 (List.map e65 t.Trials))), (115, .d (I (t.Trials.length : Int))), (116, .d (I v13)), (117, .d (.bool (decide (v13 < (t.Trials.length : Int)))))], [(0, .var 25 (cv25 t))], 1, Fr.emp, [], 0⟩ (by kernel_rfl) ?_
                        refine AW.seqK (fun K_68 hK_68 => ?_)
                        refine AW.cond rfl (fun hb_69 => False.elim (by have := of_decide_eq_true hb_69; omega)) (fun hb_69 => ?_)
                        refine AW.exit ?_
                        refine hK_54 _ ?_
                        refine AW.seqK (fun K_70 hK_70 => ?_)
                        refine AW.sa fokW [] ⟨[(140, .d (.bool (!r_2)))], [], 1, Fr.emp, [], 0⟩ (by kernel_rfl) ?_
                        refine AW.cond rfl (fun hb_71 => ?_) (fun hb_71 => ?_)
                        · have h := ifT hb_71 h
                          refine AW.sa fokW [] ⟨[(2, .d (I 20))], [], 1, Fr.emp, [], 0⟩ (by kernel_rfl) ?_
                          obtain rfl := Option.some.inj h
                          exact AW.ret (hR_0 _ (retX (.cons (.tmp rfl) .nil) (.refl _) rfl (by kernel_rfl) (by kernel_rfl)))
                        · have h := ifF hb_71 h
                          refine AW.skip ?_
                          refine hK_70 _ ?_
                          refine AW.sa fokW [] ⟨[(2, .d (I 0))], [], 1, Fr.emp, [], 0⟩ (by kernel_rfl) ?_
                          obtain rfl := Option.some.inj h
                          exact AW.ret (hR_0 _ (retX (.cons (.tmp rfl) .nil) (.refl _) rfl (by kernel_rfl) (by kernel_rfl)))
def g84 (b_StandBook : StandBook) (b_truths : (List (Nat → Int))) (b_lead : Stand_load) : Option (StandBook × (List (Nat → Int)) × Stand_load) := some (b_StandBook, b_truths, b_lead)
theorem k84 (b_StandBook : StandBook) (b_truths : (List (Nat → Int))) (b_lead : Stand_load) (r : StandBook × (List (Nat → Int)) × Stand_load) (h : g84 b_StandBook b_truths b_lead = some r) : SCall Tryd.prog Gs 84 [.agg [.d (I b_StandBook.Kind), .d (I b_StandBook.Front), .d (I b_StandBook.Back), .d (I b_StandBook.Radius), .d (.sl 4 (List.map e70 b_StandBook.Parts)), .d (I b_StandBook.Along), .d (I b_StandBook.High), .d (I b_StandBook.Lean_), .d (I b_StandBook.Limit), .d (.sl 3 (List.map e65 b_StandBook.Trials)), .d (.sl 4 (List.map e92 b_truths)), .d (I b_lead.weight), .d (I b_lead.along), .d (I b_lead.high), .opq]] [] 0 Fr.emp (match r with | (o0_StandBook, o0_truths, o0_lead) => .clo 98 [] [.ptr 0 0]) (match r with | (o0_StandBook, o0_truths, o0_lead) => [(0, .var 83 (catV (cv25 o0_StandBook) [.d (.sl 4 (List.map e92 o0_truths)), .d (I o0_lead.weight), .d (I o0_lead.along), .d (I o0_lead.high), .opq]))]) 1 Fr.emp := by
  unfold g84 at h
  refine SCall.mkK Tryd.func84 c84 rfl rfl (by kernel_rfl) (fun Q_0 hR_0 hN_0 => ?_)
  refine AW.sa fokW [] ⟨[(1, .ptr 0 0)], [(0, .var 83 (catV (cv25 b_StandBook) [.d (.sl 4 (List.map e92 b_truths)), .d (I b_lead.weight), .d (I b_lead.along), .d (I b_lead.high), .opq]))], 1, Fr.emp, [], 0⟩ (by kernel_rfl) ?_
  refine AW.sa fokW [] ⟨[(2, .clo 98 [] [.ptr 0 0])], [(0, .var 83 (catV (cv25 b_StandBook) [.d (.sl 4 (List.map e92 b_truths)), .d (I b_lead.weight), .d (I b_lead.along), .d (I b_lead.high), .opq]))], 1, Fr.emp, [], 0⟩ (by kernel_rfl) ?_
  obtain rfl := Option.some.inj h
  exact AW.ret (hR_0 _ (retX (.cons (.tmp rfl) .nil) (.refl _) rfl (by kernel_rfl) (by kernel_rfl)))
def g100  : Option (Nat → Int) := some (arrL [0, 0, 0, 0])
theorem k100  (r : (Nat → Int)) (h : g100 = some r) : SCall Tryd.prog Gs 100 [] [] 0 Fr.emp (.agg [.d (I (r 0)), .d (I (r 1)), .d (I (r 2)), .d (I (r 3))]) [] 0 Fr.emp := by
  unfold g100 at h
  refine SCall.mkK Tryd.func100 c100 rfl rfl (by kernel_rfl) (fun Q_0 hR_0 hN_0 => ?_)
  refine AW.sa fokW [] ⟨[(0, .ptr 0 0)], [(0, .var 92 [.d (I 0), .d (I 0), .d (I 0), .d (I 0)])], 1, Fr.emp, [], 0⟩ (by kernel_rfl) ?_
  refine AW.sa fokW [] ⟨[(0, .ptr 0 0), (1, .ptr 1 0)], [(1, .var 92 [.d (I 0), .d (I 0), .d (I 0), .d (I 0)]), (0, .var 92 [.d (I 0), .d (I 0), .d (I 0), .d (I 0)])], 2, Fr.emp, [], 0⟩ (by kernel_rfl) ?_
  refine AW.sa fokW [] ⟨[(0, .ptr 0 0)], [(0, .var 92 [.d (I 0), .d (I 0), .d (I 0), .d (I 0)])], 2, Fr.emp, [], 0⟩ (by kernel_rfl) ?_
  obtain rfl := Option.some.inj h
  exact AW.ret (hR_0 _ (retX (.cons (.agg rfl rfl (Nat.le_of_ble_eq_true rfl)) .nil) (.refl _) rfl (by kernel_rfl) (by kernel_rfl)))
def g99_12 {S_ : Type} (rec_ : (Nat → Int) → Int → StandBook → (List (Nat → Int)) → Stand_load → S_ → Option (Bool × S_)) (part : Int) (o0_StandBook : StandBook) (o0_truths : (List (Nat → Int))) (o0_lead : Stand_load) (p : StandPart) : Int → (S_ × (Nat → Int)) → Option (Ctl (S_ × (Nat → Int)) (Ctl (S_) (Ctl (S_) (Bool × S_)))) := fun v (s_4, w1) => (ixN 4 part).bind fun j => (rec_ (aset w1 j (wr (p.Weight.Low + v))) (wr (part + 1)) o0_StandBook o0_truths o0_lead s_4).bind fun (r0_5_1, s_8_1) => bif (!r0_5_1) then (some (.brk (.brk (.brk (false, s_8_1))))) else (some (.next (s_8_1, (aset w1 j (wr (p.Weight.Low + v))))))
def g99 {S_ : Type} (c_ : (Nat → Int) → S_ → Option (S_ × Bool)) : Nat → (Nat → Int) → Int → StandBook → (List (Nat → Int)) → Stand_load → S_ → Option (Bool × S_)
  | 0, _, _, _, _, _, _ => none
  | n_ + 1, w, part, o0_StandBook, o0_truths, o0_lead, s_ => bif (decide (part = (o0_StandBook.Parts.length : Int))) then ((g100).bind fun r0 => bif (false != (((w 0) == (r0 0)) && (((w 1) == (r0 1)) && (((w 2) == (r0 2)) && (((w 3) == (r0 3)) && true))))) then (some (true, s_)) else ((c_ w s_).bind fun (s_1, go) => some (go, s_1))) else ((ixL o0_StandBook.Parts part).bind fun p => bindC (bindC (bindC (forC (g99_12 (g99 c_ n_) part o0_StandBook o0_truths o0_lead p) ((((wr ((wr (p.Weight.High - p.Weight.Low)) + 1)) : Int) - 0).toNat) 0 (s_, w)) fun (s_4, w1) => some (.next s_4) : Option (Ctl (S_) (Ctl (S_) (Bool × S_)))) fun s_3 => some (.next s_3) : Option (Ctl (S_) (Bool × S_))) fun s_2 => some (true, s_2))
theorem k99 {S_ : Type} (fr_ : S_ → Fr) (c_ : (Nat → Int) → S_ → Option (S_ × Bool)) (hc_ : ∀ (a0 : (Nat → Int)) s s2 b, c_ a0 s = some (s2, b) → YCall Tryd.prog Gs (fr_ s) [.agg [.d (I (a0 0)), .d (I (a0 1)), .d (I (a0 2)), .d (I (a0 3))]] (.d (.bool b)) (fr_ s2)) : ∀ (n_ : Nat) (w : (Nat → Int)) (part : Int) (o0_StandBook : StandBook) (o0_truths : (List (Nat → Int))) (o0_lead : Stand_load) (s_ : S_) (r : Bool × S_) (h : g99 c_ n_ w part o0_StandBook o0_truths o0_lead s_ = some r), SCall Tryd.prog Gs 99 [.agg [.d (I (w 0)), .d (I (w 1)), .d (I (w 2)), .d (I (w 3))], .d (I part), .ptr 0 0, .ptr 1 0, .ptr 2 0] [(0, .var 83 (catV (cv25 o0_StandBook) [.d (.sl 4 (List.map e92 o0_truths)), .d (I o0_lead.weight), .d (I o0_lead.along), .d (I o0_lead.high), .opq])), (1, .var 126 [.yld]), (2, .var 127 [.clo 99 [] [.ptr 0 0, .ptr 1 0, .ptr 2 0]])] 3 (fr_ s_) (match r with | (r0_5, s_8) => .d (.bool r0_5)) (match r with | (r0_5, s_8) => [(0, .var 83 (catV (cv25 o0_StandBook) [.d (.sl 4 (List.map e92 o0_truths)), .d (I o0_lead.weight), .d (I o0_lead.along), .d (I o0_lead.high), .opq])), (1, .var 126 [.yld]), (2, .var 127 [.clo 99 [] [.ptr 0 0, .ptr 1 0, .ptr 2 0]])]) 3 (fr_ (match r with | (r0_5, s_8) => s_8)) := by
  intro n_
  induction n_ with
  | zero => intro w part o0_StandBook o0_truths o0_lead s_ r h; cases h
  | succ n_ ih =>
    intro w part o0_StandBook o0_truths o0_lead s_ r h
    rw [g99] at h
    refine SCall.mkK Tryd.func99 c99 rfl rfl (by kernel_rfl) (fun Q_0 hR_0 hN_0 => ?_)
    refine AW.sa fokW [] ⟨[(1, .d (I part)), (2, .ptr 0 0), (3, .ptr 1 0), (4, .ptr 2 0), (5, .ptr 3 0)], [(3, .var 92 [.d (I (w 0)), .d (I (w 1)), .d (I (w 2)), .d (I (w 3))]), (0, .var 83 (catV (cv25 o0_StandBook) [.d (.sl 4 (List.map e92 o0_truths)), .d (I o0_lead.weight), .d (I o0_lead.along), .d (I o0_lead.high), .opq])), (1, .var 126 [.yld]), (2, .var 127 [.clo 99 [] [.ptr 0 0, .ptr 1 0, .ptr 2 0]])], 4, (fr_ s_), [], 3⟩ (by kernel_rfl) ?_
    refine AW.seqK (fun K_1 hK_1 => ?_)
    refine AW.srwK (fun Q_2 hQ_2 => ?_)
    refine RW.au fokW 4 [] ⟨[(1, .d (I part)), (2, .ptr 0 0), (3, .ptr 1 0), (4, .ptr 2 0), (5, .ptr 3 0), (10, .d (I part)), (13, .d (.sl 4 (List.map e70 o0_StandBook.Parts)))], [(3, .var 92 [.d (I (w 0)), .d (I (w 1)), .d (I (w 2)), .d (I (w 3))]), (0, .var 83 (catV (cv25 o0_StandBook) [.d (.sl 4 (List.map e92 o0_truths)), .d (I o0_lead.weight), .d (I o0_lead.along), .d (I o0_lead.high), .opq])), (1, .var 126 [.yld]), (2, .var 127 [.clo 99 [] [.ptr 0 0, .ptr 1 0, .ptr 2 0]])], 4, (fr_ s_), [], 3⟩ (by kernel_rfl) ?_
    refine RW.one fokW (r_lenX trivial rfl lenm (r_end ?_))
    refine RW.au fokW 1 [] ⟨[(1, .d (I part)), (2, .ptr 0 0), (3, .ptr 1 0), (4, .ptr 2 0), (5, .ptr 3 0), (15, .d (.bool (decide (part = (o0_StandBook.Parts.length : Int)))))], [(3, .var 92 [.d (I (w 0)), .d (I (w 1)), .d (I (w 2)), .d (I (w 3))]), (0, .var 83 (catV (cv25 o0_StandBook) [.d (.sl 4 (List.map e92 o0_truths)), .d (I o0_lead.weight), .d (I o0_lead.along), .d (I o0_lead.high), .opq])), (1, .var 126 [.yld]), (2, .var 127 [.clo 99 [] [.ptr 0 0, .ptr 1 0, .ptr 2 0]])], 4, (fr_ s_), [], 3⟩ (by kernel_rfl) ?_
    refine RW.nil ?_
    refine hQ_2 _ ?_
    refine AW.cond rfl (fun hb_3 => ?_) (fun hb_3 => ?_)
    · have h := ifT hb_3 h
      refine AW.sdrwK fokW (fun Q_4 hQ_4 => ?_)
      refine RunC.auX 1 ⟨[(3, .ptr 1 0), (5, .ptr 3 0), (16, .agg [.d (I (w 0)), .d (I (w 1)), .d (I (w 2)), .d (I (w 3))])], [(3, .var 92 [.d (I (w 0)), .d (I (w 1)), .d (I (w 2)), .d (I (w 3))]), (0, .var 83 (catV (cv25 o0_StandBook) [.d (.sl 4 (List.map e92 o0_truths)), .d (I o0_lead.weight), .d (I o0_lead.along), .d (I o0_lead.high), .opq])), (1, .var 126 [.yld]), (2, .var 127 [.clo 99 [] [.ptr 0 0, .ptr 1 0, .ptr 2 0]])], 4, (fr_ s_), [], 3⟩ (by kernel_rfl) ?_
      obtain ⟨r0, hx_5, h⟩ := bsome h
      refine r_call trivial rfl (k100 _ hx_5) rfl rfl ?_
      refine r_aeq trivial rfl rfl rfl rfl ft92 rfl rfl rfl ?_
      refine RunC.auX 1 ⟨[(3, .ptr 1 0), (5, .ptr 3 0), (19, .d (.bool (false != (((w 0) == (r0 0)) && (((w 1) == (r0 1)) && (((w 2) == (r0 2)) && (((w 3) == (r0 3)) && true)))))))], [(3, .var 92 [.d (I (w 0)), .d (I (w 1)), .d (I (w 2)), .d (I (w 3))]), (0, .var 83 (catV (cv25 o0_StandBook) [.d (.sl 4 (List.map e92 o0_truths)), .d (I o0_lead.weight), .d (I o0_lead.along), .d (I o0_lead.high), .opq])), (1, .var 126 [.yld]), (2, .var 127 [.clo 99 [] [.ptr 0 0, .ptr 1 0, .ptr 2 0]])], 4, (fr_ s_), [], 3⟩ (by kernel_rfl) ?_
      refine r_split 19 rfl (fun hb_6 => ?_) (fun hb_6 => ?_)
      · have h := ifT hb_6 h
        refine RunC.auX 5 ⟨[(7, .d (.bool true))], [(3, .var 92 [.d (I (w 0)), .d (I (w 1)), .d (I (w 2)), .d (I (w 3))]), (0, .var 83 (catV (cv25 o0_StandBook) [.d (.sl 4 (List.map e92 o0_truths)), .d (I o0_lead.weight), .d (I o0_lead.along), .d (I o0_lead.high), .opq])), (1, .var 126 [.yld]), (2, .var 127 [.clo 99 [] [.ptr 0 0, .ptr 1 0, .ptr 2 0]])], 4, (fr_ s_), [], 3⟩ (by kernel_rfl) ?_
        refine RunC.fin ⟨[(7, .d (.bool true))], [(0, .var 83 (catV (cv25 o0_StandBook) [.d (.sl 4 (List.map e92 o0_truths)), .d (I o0_lead.weight), .d (I o0_lead.along), .d (I o0_lead.high), .opq])), (1, .var 126 [.yld]), (2, .var 127 [.clo 99 [] [.ptr 0 0, .ptr 1 0, .ptr 2 0]])], 4, (fr_ s_), [], 3⟩ (by kernel_rfl) (by kernel_rfl) ?_
        refine hQ_4 _ ?_
        obtain rfl := Option.some.inj h
        exact AW.ret (hR_0 _ (retX (.cons (.tmp rfl) .nil) (.refl _) rfl (by kernel_rfl) (by kernel_rfl)))
      · have h := ifF hb_6 h
        refine RunC.auX 2 ⟨[(19, .d (.bool false)), (20, .yld), (21, .agg [.d (I (w 0)), .d (I (w 1)), .d (I (w 2)), .d (I (w 3))])], [(3, .var 92 [.d (I (w 0)), .d (I (w 1)), .d (I (w 2)), .d (I (w 3))]), (0, .var 83 (catV (cv25 o0_StandBook) [.d (.sl 4 (List.map e92 o0_truths)), .d (I o0_lead.weight), .d (I o0_lead.along), .d (I o0_lead.high), .opq])), (1, .var 126 [.yld]), (2, .var 127 [.clo 99 [] [.ptr 0 0, .ptr 1 0, .ptr 2 0]])], 4, (fr_ s_), [], 3⟩ (by kernel_rfl) ?_
        obtain ⟨⟨s_1, go⟩, hx_7, h⟩ := bsome h
        refine r_yield (zr := []) rfl rfl rfl (hc_ w _ _ _ hx_7) trivial ⟨.refl _, trivial⟩ rfl rfl rfl rfl ?_
        refine RunC.auX 2 ⟨[(7, .d (.bool go))], [(3, .var 92 [.d (I (w 0)), .d (I (w 1)), .d (I (w 2)), .d (I (w 3))]), (0, .var 83 (catV (cv25 o0_StandBook) [.d (.sl 4 (List.map e92 o0_truths)), .d (I o0_lead.weight), .d (I o0_lead.along), .d (I o0_lead.high), .opq])), (1, .var 126 [.yld]), (2, .var 127 [.clo 99 [] [.ptr 0 0, .ptr 1 0, .ptr 2 0]])], 4, (fr_ s_1), [], 3⟩ (by kernel_rfl) ?_
        refine RunC.fin ⟨[(7, .d (.bool go))], [(0, .var 83 (catV (cv25 o0_StandBook) [.d (.sl 4 (List.map e92 o0_truths)), .d (I o0_lead.weight), .d (I o0_lead.along), .d (I o0_lead.high), .opq])), (1, .var 126 [.yld]), (2, .var 127 [.clo 99 [] [.ptr 0 0, .ptr 1 0, .ptr 2 0]])], 4, (fr_ s_1), [], 3⟩ (by kernel_rfl) (by kernel_rfl) ?_
        refine hQ_4 _ ?_
        obtain rfl := Option.some.inj h
        exact AW.ret (hR_0 _ (retX (.cons (.tmp rfl) .nil) (.refl _) rfl (by kernel_rfl) (by kernel_rfl)))
    · have h := ifF hb_3 h
      refine AW.skip ?_
      refine hK_1 _ ?_
      refine AW.srwK (fun Q_8 hQ_8 => ?_)
      refine RW.au fokW 4 [] ⟨[(1, .d (I part)), (4, .ptr 2 0), (5, .ptr 3 0), (26, .d (.sl 4 (List.map e70 o0_StandBook.Parts))), (27, .d (I part))], [(3, .var 92 [.d (I (w 0)), .d (I (w 1)), .d (I (w 2)), .d (I (w 3))]), (0, .var 83 (catV (cv25 o0_StandBook) [.d (.sl 4 (List.map e92 o0_truths)), .d (I o0_lead.weight), .d (I o0_lead.along), .d (I o0_lead.high), .opq])), (1, .var 126 [.yld]), (2, .var 127 [.clo 99 [] [.ptr 0 0, .ptr 1 0, .ptr 2 0]])], 4, (fr_ s_), [], 3⟩ (by kernel_rfl) ?_
      obtain ⟨p, hv_9, h⟩ := bsome h
      refine RW.one fokW (r_iaD trivial rfl rfl (ixL_ok hv_9).1 (row := e70 p) (mapget (ixL_ok hv_9).2) (r_end ?_))
      refine RW.au fokW 4 [] ⟨[(1, .d (I part)), (4, .ptr 2 0), (5, .ptr 3 0), (8, .ptr 4 0)], [(4, .var 42 [.d (I p.Weight.Low), .d (I p.Weight.High)]), (3, .var 92 [.d (I (w 0)), .d (I (w 1)), .d (I (w 2)), .d (I (w 3))]), (0, .var 83 (catV (cv25 o0_StandBook) [.d (.sl 4 (List.map e92 o0_truths)), .d (I o0_lead.weight), .d (I o0_lead.along), .d (I o0_lead.high), .opq])), (1, .var 126 [.yld]), (2, .var 127 [.clo 99 [] [.ptr 0 0, .ptr 1 0, .ptr 2 0]])], 5, (fr_ s_), [], 3⟩ (by kernel_rfl) ?_
      refine RW.nil ?_
      refine hQ_8 _ ?_
      obtain ⟨c_10, hx_10, hk_10⟩ := bsomeC h
      refine AW.jnK (fun (s_2 : S_) => ⟨[], [(0, .var 83 (catV (cv25 o0_StandBook) [.d (.sl 4 (List.map e92 o0_truths)), .d (I o0_lead.weight), .d (I o0_lead.along), .d (I o0_lead.high), .opq])), (1, .var 126 [.yld]), (2, .var 127 [.clo 99 [] [.ptr 0 0, .ptr 1 0, .ptr 2 0]])], 3, (fr_ s_2), [], 3⟩) (c := c_10) (fun K_10 hK_10 => ?_) (fun s_2 hj_10 => ?_)
      · have h := hx_10
        refine AW.sa fokW [] ⟨[(1, .d (I part)), (4, .ptr 2 0), (5, .ptr 3 0), (8, .ptr 4 0), (36, .d (I (wr ((wr (p.Weight.High - p.Weight.Low)) + 1)))), (37, .d (I 0))], [(4, .var 42 [.d (I p.Weight.Low), .d (I p.Weight.High)]), (3, .var 92 [.d (I (w 0)), .d (I (w 1)), .d (I (w 2)), .d (I (w 3))]), (0, .var 83 (catV (cv25 o0_StandBook) [.d (.sl 4 (List.map e92 o0_truths)), .d (I o0_lead.weight), .d (I o0_lead.along), .d (I o0_lead.high), .opq])), (1, .var 126 [.yld]), (2, .var 127 [.clo 99 [] [.ptr 0 0, .ptr 1 0, .ptr 2 0]])], 5, (fr_ s_), [], 3⟩ (by kernel_rfl) ?_
        obtain ⟨c_11, hx_11, hk_11⟩ := bsomeC h
        refine AW.jqK (fun (s_3 : S_) => ⟨[], [(0, .var 83 (catV (cv25 o0_StandBook) [.d (.sl 4 (List.map e92 o0_truths)), .d (I o0_lead.weight), .d (I o0_lead.along), .d (I o0_lead.high), .opq])), (1, .var 126 [.yld]), (2, .var 127 [.clo 99 [] [.ptr 0 0, .ptr 1 0, .ptr 2 0]])], 3, (fr_ s_3), [], 3⟩) (c := c_11) (fun K_11 hK_11 => ?_) (fun s_3 hj_11 => ?_)
        · have h := hx_11
          refine AW.block ?_
          have hN_12 : (wr ((wr (p.Weight.High - p.Weight.Low)) + 1)) ≤ 9223372036854775807 := (wr_range _).2
          obtain ⟨out_12, hx_12, hk_12⟩ := bsomeC h
          refine AW.lpCK (fun (v : Int) (⟨s_4, w1⟩ : S_ × (Nat → Int)) => ⟨[(1, .d (I part)), (4, .ptr 2 0), (5, .ptr 3 0), (8, .ptr 4 0), (36, .d (I (wr ((wr (p.Weight.High - p.Weight.Low)) + 1)))), (37, .d (I v))], [(4, .var 42 [.d (I p.Weight.Low), .d (I p.Weight.High)]), (3, .var 92 [.d (I (w1 0)), .d (I (w1 1)), .d (I (w1 2)), .d (I (w1 3))]), (0, .var 83 (catV (cv25 o0_StandBook) [.d (.sl 4 (List.map e92 o0_truths)), .d (I o0_lead.weight), .d (I o0_lead.along), .d (I o0_lead.high), .opq])), (1, .var 126 [.yld]), (2, .var 127 [.clo 99 [] [.ptr 0 0, .ptr 1 0, .ptr 2 0]])], 5, (fr_ s_4), [], 3⟩) (g99_12 (g99 c_ n_) part o0_StandBook o0_truths o0_lead p) ((wr ((wr (p.Weight.High - p.Weight.Low)) + 1))) hx_12 (Can.kp (by kernel_rfl)) (fun v s_12 hi_12 hl_12 c_12 h hb_12 K_12 hK_12 => ?_) (fun v s_12 hi_12 hl_12 hout => ?_)
          · obtain ⟨s_4, w1⟩ := s_12
            unfold g99_12 at h
            refine AW.sa fokW [] ⟨[(1, .d (I part)), (4, .ptr 2 0), (5, .ptr 3 0), (8, .ptr 4 0), (36, .d (I (wr ((wr (p.Weight.High - p.Weight.Low)) + 1)))), (37, .d (I v)), (38, .d (.bool (decide (v < (wr ((wr (p.Weight.High - p.Weight.Low)) + 1))))))], [(4, .var 42 [.d (I p.Weight.Low), .d (I p.Weight.High)]), (3, .var 92 [.d (I (w1 0)), .d (I (w1 1)), .d (I (w1 2)), .d (I (w1 3))]), (0, .var 83 (catV (cv25 o0_StandBook) [.d (.sl 4 (List.map e92 o0_truths)), .d (I o0_lead.weight), .d (I o0_lead.along), .d (I o0_lead.high), .opq])), (1, .var 126 [.yld]), (2, .var 127 [.clo 99 [] [.ptr 0 0, .ptr 1 0, .ptr 2 0]])], 5, (fr_ s_4), [], 3⟩ (by kernel_rfl) ?_
            refine AW.seqK (fun K_13 hK_13 => ?_)
            refine AW.cond rfl (fun hb_14 => ?_) (fun hb_14 => False.elim (by have := of_decide_eq_false hb_14; omega))
            refine AW.skip ?_
            refine hK_13 _ ?_
            refine AW.seqK (fun K_15 hK_15 => ?_)
            refine AW.block ?_
            refine AW.sa fokW [] ⟨[(1, .d (I part)), (4, .ptr 2 0), (5, .ptr 3 0), (8, .ptr 4 0), (9, .d (I v)), (36, .d (I (wr ((wr (p.Weight.High - p.Weight.Low)) + 1)))), (37, .d (I v))], [(4, .var 42 [.d (I p.Weight.Low), .d (I p.Weight.High)]), (3, .var 92 [.d (I (w1 0)), .d (I (w1 1)), .d (I (w1 2)), .d (I (w1 3))]), (0, .var 83 (catV (cv25 o0_StandBook) [.d (.sl 4 (List.map e92 o0_truths)), .d (I o0_lead.weight), .d (I o0_lead.along), .d (I o0_lead.high), .opq])), (1, .var 126 [.yld]), (2, .var 127 [.clo 99 [] [.ptr 0 0, .ptr 1 0, .ptr 2 0]])], 5, (fr_ s_4), [], 3⟩ (by kernel_rfl) ?_
            refine AW.srwK (fun Q_16 hQ_16 => ?_)
            refine RW.au fokW 5 [] ⟨[(1, .d (I part)), (4, .ptr 2 0), (5, .ptr 3 0), (8, .ptr 4 0), (36, .d (I (wr ((wr (p.Weight.High - p.Weight.Low)) + 1)))), (37, .d (I v)), (40, .d (I part)), (44, .d (I (wr (p.Weight.Low + v))))], [(4, .var 42 [.d (I p.Weight.Low), .d (I p.Weight.High)]), (3, .var 92 [.d (I (w1 0)), .d (I (w1 1)), .d (I (w1 2)), .d (I (w1 3))]), (0, .var 83 (catV (cv25 o0_StandBook) [.d (.sl 4 (List.map e92 o0_truths)), .d (I o0_lead.weight), .d (I o0_lead.along), .d (I o0_lead.high), .opq])), (1, .var 126 [.yld]), (2, .var 127 [.clo 99 [] [.ptr 0 0, .ptr 1 0, .ptr 2 0]])], 5, (fr_ s_4), [], 3⟩ (by kernel_rfl) ?_
            obtain ⟨j, hv_17, h⟩ := bsome h
            refine RW.one fokW (r_iaV trivial rfl rfl rfl (ixN_ok hv_17).1 (ixN_ok hv_17).2.1 (r_end ?_))
            refine RW.one fokW (r_stX trivial rfl rfl rfl rfl rfl (aslot hv_17 rfl) (cs' := [.d (I ((aset w1 j (wr (p.Weight.Low + v))) 0)), .d (I ((aset w1 j (wr (p.Weight.Low + v))) 1)), .d (I ((aset w1 j (wr (p.Weight.Low + v))) 2)), .d (I ((aset w1 j (wr (p.Weight.Low + v))) 3))]) (ast (w := w1) (c := fun z => .d (I z)) hv_17) (r_end ?_))
            refine RW.nil ?_
            refine hQ_16 _ ?_
            refine AW.srwK (fun Q_18 hQ_18 => ?_)
            refine RW.au fokW 4 [] ⟨[(1, .d (I part)), (4, .ptr 2 0), (5, .ptr 3 0), (8, .ptr 4 0), (36, .d (I (wr ((wr (p.Weight.High - p.Weight.Low)) + 1)))), (37, .d (I v)), (46, .clo 99 [] [.ptr 0 0, .ptr 1 0, .ptr 2 0]), (47, .agg [.d (I ((aset w1 j (wr (p.Weight.Low + v))) 0)), .d (I ((aset w1 j (wr (p.Weight.Low + v))) 1)), .d (I ((aset w1 j (wr (p.Weight.Low + v))) 2)), .d (I ((aset w1 j (wr (p.Weight.Low + v))) 3))]), (49, .d (I (wr (part + 1))))], [(3, .var 92 [.d (I ((aset w1 j (wr (p.Weight.Low + v))) 0)), .d (I ((aset w1 j (wr (p.Weight.Low + v))) 1)), .d (I ((aset w1 j (wr (p.Weight.Low + v))) 2)), .d (I ((aset w1 j (wr (p.Weight.Low + v))) 3))]), (4, .var 42 [.d (I p.Weight.Low), .d (I p.Weight.High)]), (0, .var 83 (catV (cv25 o0_StandBook) [.d (.sl 4 (List.map e92 o0_truths)), .d (I o0_lead.weight), .d (I o0_lead.along), .d (I o0_lead.high), .opq])), (1, .var 126 [.yld]), (2, .var 127 [.clo 99 [] [.ptr 0 0, .ptr 1 0, .ptr 2 0]])], 5, (fr_ s_4), [], 3⟩ (by kernel_rfl) ?_
            obtain ⟨⟨r0_5_1, s_8_1⟩, hx_19, h⟩ := bsome h
            refine RW.one fokW (r_callvS (zr := []) [0, 1, 2] trivial rfl (.clo _ _ _) (by kernel_rfl) rfl (ih (aset w1 j (wr (p.Weight.Low + v))) (wr (part + 1)) o0_StandBook o0_truths o0_lead s_4 _ hx_19) ⟨rfl, rfl, rfl, trivial⟩ rfl rfl ⟨.refl _, .refl _, .refl _, .refl _, .refl _, trivial⟩ rfl rfl rfl (r_end ?_))
            refine RW.au fokW 1 [] ⟨[(1, .d (I part)), (4, .ptr 2 0), (5, .ptr 3 0), (8, .ptr 4 0), (36, .d (I (wr ((wr (p.Weight.High - p.Weight.Low)) + 1)))), (37, .d (I v)), (51, .d (.bool (!r0_5_1)))], [(0, .var 83 (catV (cv25 o0_StandBook) [.d (.sl 4 (List.map e92 o0_truths)), .d (I o0_lead.weight), .d (I o0_lead.along), .d (I o0_lead.high), .opq])), (1, .var 126 [.yld]), (2, .var 127 [.clo 99 [] [.ptr 0 0, .ptr 1 0, .ptr 2 0]]), (3, .var 92 [.d (I ((aset w1 j (wr (p.Weight.Low + v))) 0)), .d (I ((aset w1 j (wr (p.Weight.Low + v))) 1)), .d (I ((aset w1 j (wr (p.Weight.Low + v))) 2)), .d (I ((aset w1 j (wr (p.Weight.Low + v))) 3))]), (4, .var 42 [.d (I p.Weight.Low), .d (I p.Weight.High)])], 5, (fr_ s_8_1), [], 3⟩ (by kernel_rfl) ?_
            refine RW.nil ?_
            refine hQ_18 _ ?_
            refine AW.cond rfl (fun hb_20 => ?_) (fun hb_20 => ?_)
            · have h := ifT hb_20 h
              refine AW.sa fokW [] ⟨[(7, .d (.bool false))], [(0, .var 83 (catV (cv25 o0_StandBook) [.d (.sl 4 (List.map e92 o0_truths)), .d (I o0_lead.weight), .d (I o0_lead.along), .d (I o0_lead.high), .opq])), (1, .var 126 [.yld]), (2, .var 127 [.clo 99 [] [.ptr 0 0, .ptr 1 0, .ptr 2 0]])], 5, (fr_ s_8_1), [], 3⟩ (by kernel_rfl) ?_
              obtain rfl := Option.some.inj h
              have e_3 := hb_12 _ rfl
              subst e_3
              obtain rfl := Aft.bk hk_12
              obtain rfl := Aft.bk hk_11
              obtain rfl := Aft.bk hk_10
              exact AW.ret (hR_0 _ (retX (.cons (.tmp rfl) .nil) (.refl _) rfl (by kernel_rfl) (by kernel_rfl)))
            · have h := ifF hb_20 h
              refine AW.skip ?_
              refine hK_15 _ ?_
              refine AW.ra fokW [] ⟨[(1, .d (I part)), (4, .ptr 2 0), (5, .ptr 3 0), (8, .ptr 4 0), (36, .d (I (wr ((wr (p.Weight.High - p.Weight.Low)) + 1)))), (37, .d (I (wr (v + 1))))], [(0, .var 83 (catV (cv25 o0_StandBook) [.d (.sl 4 (List.map e92 o0_truths)), .d (I o0_lead.weight), .d (I o0_lead.along), .d (I o0_lead.high), .opq])), (1, .var 126 [.yld]), (2, .var 127 [.clo 99 [] [.ptr 0 0, .ptr 1 0, .ptr 2 0]]), (3, .var 92 [.d (I ((aset w1 j (wr (p.Weight.Low + v))) 0)), .d (I ((aset w1 j (wr (p.Weight.Low + v))) 1)), .d (I ((aset w1 j (wr (p.Weight.Low + v))) 2)), .d (I ((aset w1 j (wr (p.Weight.Low + v))) 3))]), (4, .var 42 [.d (I p.Weight.Low), .d (I p.Weight.High)])], 5, (fr_ s_8_1), [], 3⟩ (by kernel_rfl) ?_
              obtain rfl := Option.some.inj h
              have ew : wr (v + 1) = v + 1 := inext (N := (wr ((wr (p.Weight.High - p.Weight.Low)) + 1))) (by omega) (by omega) (by omega)
              rw [ew]
              exact hK_12 _ _ rfl (Can.kp (by kernel_rfl))
          · obtain ⟨s_4, w1⟩ := s_12
            subst hout
            have h := Aft.nx hk_12
            refine AW.sa fokW [] ⟨[(1, .d (I part)), (4, .ptr 2 0), (5, .ptr 3 0), (8, .ptr 4 0), (36, .d (I (wr ((wr (p.Weight.High - p.Weight.Low)) + 1)))), (37, .d (I v)), (38, .d (.bool (decide (v < (wr ((wr (p.Weight.High - p.Weight.Low)) + 1))))))], [(4, .var 42 [.d (I p.Weight.Low), .d (I p.Weight.High)]), (3, .var 92 [.d (I (w1 0)), .d (I (w1 1)), .d (I (w1 2)), .d (I (w1 3))]), (0, .var 83 (catV (cv25 o0_StandBook) [.d (.sl 4 (List.map e92 o0_truths)), .d (I o0_lead.weight), .d (I o0_lead.along), .d (I o0_lead.high), .opq])), (1, .var 126 [.yld]), (2, .var 127 [.clo 99 [] [.ptr 0 0, .ptr 1 0, .ptr 2 0]])], 5, (fr_ s_4), [], 3⟩ (by kernel_rfl) ?_
            refine AW.seqK (fun K_21 hK_21 => ?_)
            refine AW.cond rfl (fun hb_22 => False.elim (by have := of_decide_eq_true hb_22; omega)) (fun hb_22 => ?_)
            refine AW.exit ?_
            obtain rfl := Option.some.inj h
            exact hK_11 _ _ rfl (Can.kp (by kernel_rfl))
        · subst hj_11
          have h := Aft.nx hk_11
          obtain rfl := Option.some.inj h
          exact hK_10 _ _ rfl (Can.kp (by kernel_rfl))
      · subst hj_10
        have h := Aft.nx hk_10
        refine AW.sa fokW [] ⟨[(7, .d (.bool true))], [(0, .var 83 (catV (cv25 o0_StandBook) [.d (.sl 4 (List.map e92 o0_truths)), .d (I o0_lead.weight), .d (I o0_lead.along), .d (I o0_lead.high), .opq])), (1, .var 126 [.yld]), (2, .var 127 [.clo 99 [] [.ptr 0 0, .ptr 1 0, .ptr 2 0]])], 3, (fr_ s_2), [], 3⟩ (by kernel_rfl) ?_
        obtain rfl := Option.some.inj h
        exact AW.ret (hR_0 _ (retX (.cons (.tmp rfl) .nil) (.refl _) rfl (by kernel_rfl) (by kernel_rfl)))
def g98 {S_ : Type} (c_ : (Nat → Int) → S_ → Option (S_ × Bool)) (o0_StandBook : StandBook) (o0_truths : (List (Nat → Int))) (o0_lead : Stand_load) (s_ : S_) : Option S_ := (g100).bind fun r0 => (g99 c_ 1000 r0 0 o0_StandBook o0_truths o0_lead s_).bind fun (r0_5, s_8) => some s_8
theorem k98 {S_ : Type} (fr_ : S_ → Fr) (c_ : (Nat → Int) → S_ → Option (S_ × Bool)) (hc_ : ∀ (a0 : (Nat → Int)) s s2 b, c_ a0 s = some (s2, b) → YCall Tryd.prog Gs (fr_ s) [.agg [.d (I (a0 0)), .d (I (a0 1)), .d (I (a0 2)), .d (I (a0 3))]] (.d (.bool b)) (fr_ s2)) (o0_StandBook : StandBook) (o0_truths : (List (Nat → Int))) (o0_lead : Stand_load) (s_ : S_) (r : S_) (h : g98 c_ o0_StandBook o0_truths o0_lead s_ = some r) : SCall Tryd.prog Gs 98 [.yld, .ptr 0 0] [(0, .var 83 (catV (cv25 o0_StandBook) [.d (.sl 4 (List.map e92 o0_truths)), .d (I o0_lead.weight), .d (I o0_lead.along), .d (I o0_lead.high), .opq]))] 1 (fr_ s_) (.tup []) [(0, .var 83 (catV (cv25 o0_StandBook) [.d (.sl 4 (List.map e92 o0_truths)), .d (I o0_lead.weight), .d (I o0_lead.along), .d (I o0_lead.high), .opq]))] 1 (fr_ r) := by
  unfold g98 at h
  refine SCall.mkK Tryd.func98 c98 rfl rfl (by kernel_rfl) (fun Q_0 hR_0 hN_0 => ?_)
  refine AW.sa fokW [] ⟨[(1, .ptr 0 0), (2, .ptr 1 0)], [(1, .var 126 [.yld]), (0, .var 83 (catV (cv25 o0_StandBook) [.d (.sl 4 (List.map e92 o0_truths)), .d (I o0_lead.weight), .d (I o0_lead.along), .d (I o0_lead.high), .opq]))], 2, (fr_ s_), [], 1⟩ (by kernel_rfl) ?_
  refine AW.sa fokW [] ⟨[(1, .ptr 0 0), (2, .ptr 1 0), (3, .ptr 2 0)], [(2, .var 127 [.d (.nilFn)]), (1, .var 126 [.yld]), (0, .var 83 (catV (cv25 o0_StandBook) [.d (.sl 4 (List.map e92 o0_truths)), .d (I o0_lead.weight), .d (I o0_lead.along), .d (I o0_lead.high), .opq]))], 3, (fr_ s_), [], 1⟩ (by kernel_rfl) ?_
  refine AW.sa fokW [] ⟨[(3, .ptr 2 0)], [(2, .var 127 [.clo 99 [] [.ptr 0 0, .ptr 1 0, .ptr 2 0]]), (1, .var 126 [.yld]), (0, .var 83 (catV (cv25 o0_StandBook) [.d (.sl 4 (List.map e92 o0_truths)), .d (I o0_lead.weight), .d (I o0_lead.along), .d (I o0_lead.high), .opq]))], 3, (fr_ s_), [], 1⟩ (by kernel_rfl) ?_
  refine AW.drw fokW ?_
  refine RunC.auX 1 ⟨[(5, .clo 99 [] [.ptr 0 0, .ptr 1 0, .ptr 2 0])], [(2, .var 127 [.clo 99 [] [.ptr 0 0, .ptr 1 0, .ptr 2 0]]), (1, .var 126 [.yld]), (0, .var 83 (catV (cv25 o0_StandBook) [.d (.sl 4 (List.map e92 o0_truths)), .d (I o0_lead.weight), .d (I o0_lead.along), .d (I o0_lead.high), .opq]))], 3, (fr_ s_), [], 1⟩ (by kernel_rfl) ?_
  obtain ⟨r0, hx_2, h⟩ := bsome h
  refine r_call trivial rfl (k100 _ hx_2) rfl rfl ?_
  obtain ⟨⟨r0_5, s_8⟩, hx_3, h⟩ := bsome h
  refine r_callvS (zr := []) [0, 1, 2] trivial rfl (.clo _ _ _) (by kernel_rfl) rfl (k99 fr_ c_ hc_ 1000 r0 0 o0_StandBook o0_truths o0_lead s_ _ hx_3) ⟨rfl, rfl, rfl, trivial⟩ rfl rfl ⟨.refl _, .refl _, .refl _, .refl _, .refl _, trivial⟩ rfl rfl rfl ?_
  refine RunC.fin ⟨[], [(0, .var 83 (catV (cv25 o0_StandBook) [.d (.sl 4 (List.map e92 o0_truths)), .d (I o0_lead.weight), .d (I o0_lead.along), .d (I o0_lead.high), .opq]))], 3, (fr_ s_8), [], 1⟩ (by kernel_rfl) (by kernel_rfl) ?_
  obtain rfl := Option.some.inj h
  exact hN_0 _ (retX .nil (.refl _) rfl (by kernel_rfl) (by kernel_rfl))
def g104_3 (v : Int) : Int → Int → Unit → Option (Ctl (Unit) (Int)) := fun v1 p _ => bif (decide (v = p)) then (some (.brk v1)) else (some (.next ()))
def g104 (s : (List Int)) (v : Int) : Option Int := bindC (eachC (g104_3 v) s 0 ()) fun _ => some (-1)
theorem k104 (s : (List Int)) (v : Int) (r : Int) (h : g104 s v = some r) : SCall Tryd.prog Gs 104 [.d (.sl 1 (List.map e3 s)), .d (I v)] [] 0 Fr.emp (.d (I r)) [] 0 Fr.emp := by
  unfold g104 at h
  refine SCall.mkK Tryd.func104 c104 rfl rfl (by kernel_rfl) (fun Q_0 hR_0 hN_0 => ?_)
  refine AW.sa fokW [] ⟨[(0, .d (.sl 1 (List.map e3 s))), (1, .d (I v))], [], 0, Fr.emp, [], 0⟩ (by kernel_rfl) ?_
  refine AW.seqK (fun K_1 hK_1 => ?_)
  refine AW.srwK (fun Q_2 hQ_2 => ?_)
  refine RW.au fokW 1 [] ⟨[(0, .d (.sl 1 (List.map e3 s))), (1, .d (I v)), (6, .d (.sl 1 (List.map e3 s)))], [], 0, Fr.emp, [], 0⟩ (by kernel_rfl) ?_
  refine RW.one fokW (r_lenX trivial rfl lenm (r_end ?_))
  refine RW.au fokW 1 [] ⟨[(0, .d (.sl 1 (List.map e3 s))), (1, .d (I v)), (7, .d (I (s.length : Int))), (8, .d (I 0))], [], 0, Fr.emp, [], 0⟩ (by kernel_rfl) ?_
  refine RW.nil ?_
  refine hQ_2 _ ?_
  refine AW.block ?_
  refine AW.sln (t := 0) rfl (fun hN_3 => ?_)
  rw [List.length_map] at hN_3
  obtain ⟨out_3, hx_3, hk_3⟩ := bsomeC h
  refine AW.evCK (fun (v1 : Int) (_ : Unit) => ⟨[(0, .d (.sl 1 (List.map e3 s))), (1, .d (I v)), (7, .d (I (s.length : Int))), (8, .d (I v1))], [], 0, Fr.emp, [], 0⟩) (g104_3 v) hx_3 (Can.kp (by kernel_rfl)) (fun v1 p s_3 hi_3 hl_3 hp_3 c_3 h hb_3 K_3 hK_3 => ?_) (fun v1 s_3 hi_3 hl_3 hout => ?_)
  · unfold g104_3 at h
    refine AW.sa fokW [] ⟨[(0, .d (.sl 1 (List.map e3 s))), (1, .d (I v)), (7, .d (I (s.length : Int))), (8, .d (I v1)), (9, .d (.bool (decide (v1 < (s.length : Int)))))], [], 0, Fr.emp, [], 0⟩ (by kernel_rfl) ?_
    refine AW.seqK (fun K_4 hK_4 => ?_)
    refine AW.cond rfl (fun hb_5 => ?_) (fun hb_5 => False.elim (by have := of_decide_eq_false hb_5; omega))
    refine AW.skip ?_
    refine hK_4 _ ?_
    refine AW.seqK (fun K_6 hK_6 => ?_)
    refine AW.block ?_
    refine AW.sa fokW [] ⟨[(0, .d (.sl 1 (List.map e3 s))), (1, .d (I v)), (5, .d (I v1)), (7, .d (I (s.length : Int))), (8, .d (I v1))], [], 0, Fr.emp, [], 0⟩ (by kernel_rfl) ?_
    refine AW.srwK (fun Q_7 hQ_7 => ?_)
    refine RW.au fokW 3 [] ⟨[(0, .d (.sl 1 (List.map e3 s))), (1, .d (I v)), (5, .d (I v1)), (7, .d (I (s.length : Int))), (8, .d (I v1)), (11, .d (I v)), (12, .d (.sl 1 (List.map e3 s))), (13, .d (I v1))], [], 0, Fr.emp, [], 0⟩ (by kernel_rfl) ?_
    refine RW.one fokW (r_iaD trivial rfl rfl hi_3 (row := e3 p) (mapget hp_3) (r_end ?_))
    refine RW.au fokW 2 [] ⟨[(0, .d (.sl 1 (List.map e3 s))), (1, .d (I v)), (5, .d (I v1)), (7, .d (I (s.length : Int))), (8, .d (I v1)), (16, .d (.bool (decide (v = p))))], [], 0, Fr.emp, [], 0⟩ (by kernel_rfl) ?_
    refine RW.nil ?_
    refine hQ_7 _ ?_
    refine AW.cond rfl (fun hb_8 => ?_) (fun hb_8 => ?_)
    · have h := ifT hb_8 h
      refine AW.sa fokW [] ⟨[(4, .d (I v1))], [], 0, Fr.emp, [], 0⟩ (by kernel_rfl) ?_
      obtain rfl := Option.some.inj h
      have e_1 := hb_3 _ rfl
      subst e_1
      obtain rfl := Aft.bk hk_3
      exact AW.ret (hR_0 _ (retX (.cons (.tmp rfl) .nil) (.refl _) rfl (by kernel_rfl) (by kernel_rfl)))
    · have h := ifF hb_8 h
      refine AW.skip ?_
      refine hK_6 _ ?_
      refine AW.ra fokW [] ⟨[(0, .d (.sl 1 (List.map e3 s))), (1, .d (I v)), (7, .d (I (s.length : Int))), (8, .d (I (wr (v1 + 1))))], [], 0, Fr.emp, [], 0⟩ (by kernel_rfl) ?_
      obtain rfl := Option.some.inj h
      have ew : wr (v1 + 1) = v1 + 1 := inext (N := (s.length : Int)) (by omega) (by omega) (by omega)
      rw [ew]
      exact hK_3 _ _ rfl (Can.kp (by kernel_rfl))
  · subst hout
    have h := Aft.nx hk_3
    refine AW.sa fokW [] ⟨[(0, .d (.sl 1 (List.map e3 s))), (1, .d (I v)), (7, .d (I (s.length : Int))), (8, .d (I v1)), (9, .d (.bool (decide (v1 < (s.length : Int)))))], [], 0, Fr.emp, [], 0⟩ (by kernel_rfl) ?_
    refine AW.seqK (fun K_9 hK_9 => ?_)
    refine AW.cond rfl (fun hb_10 => False.elim (by have := of_decide_eq_true hb_10; omega)) (fun hb_10 => ?_)
    refine AW.exit ?_
    refine hK_1 _ ?_
    refine AW.sa fokW [] ⟨[(4, .d (I (-1)))], [], 0, Fr.emp, [], 0⟩ (by kernel_rfl) ?_
    obtain rfl := Option.some.inj h
    exact AW.ret (hR_0 _ (retX (.cons (.tmp rfl) .nil) (.refl _) rfl (by kernel_rfl) (by kernel_rfl)))
def g101 (s : (List Int)) (v : Int) : Option Bool := (g104 s v).bind fun r0_1 => some (decide (0 ≤ r0_1))
theorem k101 (s : (List Int)) (v : Int) (r : Bool) (h : g101 s v = some r) : SCall Tryd.prog Gs 101 [.d (.sl 1 (List.map e3 s)), .d (I v)] [] 0 Fr.emp (.d (.bool r)) [] 0 Fr.emp := by
  unfold g101 at h
  refine SCall.mkK Tryd.func101 c101 rfl rfl (by kernel_rfl) (fun Q_0 hR_0 hN_0 => ?_)
  refine AW.sa fokW [] ⟨[(0, .d (.sl 1 (List.map e3 s))), (1, .d (I v))], [], 0, Fr.emp, [], 0⟩ (by kernel_rfl) ?_
  refine AW.srwK (fun Q_1 hQ_1 => ?_)
  refine RW.au fokW 2 [] ⟨[(5, .d (.sl 1 (List.map e3 s))), (6, .d (I v))], [], 0, Fr.emp, [], 0⟩ (by kernel_rfl) ?_
  obtain ⟨r0_1, hx_2, h⟩ := bsome h
  refine RW.one fokW (r_call trivial rfl (k104 s v _ hx_2) rfl rfl (r_end ?_))
  refine RW.au fokW 2 [] ⟨[(4, .d (.bool (decide (0 ≤ r0_1))))], [], 0, Fr.emp, [], 0⟩ (by kernel_rfl) ?_
  refine RW.nil ?_
  refine hQ_1 _ ?_
  obtain rfl := Option.some.inj h
  exact AW.ret (hR_0 _ (retX (.cons (.tmp rfl) .nil) (.refl _) rfl (by kernel_rfl) (by kernel_rfl)))
def g95_3 (w : (Nat → Int)) : Int → StandPart → (Int × Int × Int) → Option (Int × Int × Int) := fun v p (weight, along, high) => (ixN 4 v).bind fun j => (ixN 4 v).bind fun j1 => (ixN 4 v).bind fun j2 => some ((wr (weight + (w j))), (wr (along + (wr ((w j1) * p.Along)))), (wr (high + (wr ((w j2) * p.High)))))
def g95 (b_StandBook : StandBook) (b_truths : (List (Nat → Int))) (b_lead : Stand_load) (w : (Nat → Int)) (c : Stand_child) : Option Stand_load := (eachS (g95_3 w) b_StandBook.Parts 0 ((wr (b_lead.weight + c.weight)), (wr (b_lead.along + (wr (c.weight * (wr (b_StandBook.Along + c.lean)))))), (wr (b_lead.high + (wr (c.weight * b_StandBook.High)))))).bind fun (weight, along, high) => some (Stand_load.mk weight along high)
theorem k95 (b_StandBook : StandBook) (b_truths : (List (Nat → Int))) (b_lead : Stand_load) (w : (Nat → Int)) (c : Stand_child) (r : Stand_load) (h : g95 b_StandBook b_truths b_lead w c = some r) : SCall Tryd.prog Gs 95 [.agg [.d (I b_StandBook.Kind), .d (I b_StandBook.Front), .d (I b_StandBook.Back), .d (I b_StandBook.Radius), .d (.sl 4 (List.map e70 b_StandBook.Parts)), .d (I b_StandBook.Along), .d (I b_StandBook.High), .d (I b_StandBook.Lean_), .d (I b_StandBook.Limit), .d (.sl 3 (List.map e65 b_StandBook.Trials)), .d (.sl 4 (List.map e92 b_truths)), .d (I b_lead.weight), .d (I b_lead.along), .d (I b_lead.high), .opq], .agg [.d (I (w 0)), .d (I (w 1)), .d (I (w 2)), .d (I (w 3))], .agg [.d (I c.weight), .d (I c.lean)]] [] 0 Fr.emp (.agg [.d (I r.weight), .d (I r.along), .d (I r.high)]) [] 0 Fr.emp := by
  unfold g95 at h
  refine SCall.mkK Tryd.func95 c95 rfl rfl (by kernel_rfl) (fun Q_0 hR_0 hN_0 => ?_)
  refine AW.sa fokW [] ⟨[(3, .ptr 0 0), (4, .ptr 1 0), (5, .ptr 2 0), (6, .ptr 3 0)], [(3, .var 80 [.d (I 0), .d (I 0), .d (I 0)]), (2, .var 94 [.d (I c.weight), .d (I c.lean)]), (1, .var 92 [.d (I (w 0)), .d (I (w 1)), .d (I (w 2)), .d (I (w 3))]), (0, .var 83 (catV (cv25 b_StandBook) [.d (.sl 4 (List.map e92 b_truths)), .d (I b_lead.weight), .d (I b_lead.along), .d (I b_lead.high), .opq]))], 4, Fr.emp, [], 0⟩ (by kernel_rfl) ?_
  refine AW.sa fokW [] ⟨[(3, .ptr 0 0), (4, .ptr 1 0), (5, .ptr 2 0), (6, .ptr 3 0), (7, .ptr 4 0)], [(4, .var 80 [.d (I b_lead.weight), .d (I b_lead.along), .d (I b_lead.high)]), (3, .var 80 [.d (I 0), .d (I 0), .d (I 0)]), (2, .var 94 [.d (I c.weight), .d (I c.lean)]), (1, .var 92 [.d (I (w 0)), .d (I (w 1)), .d (I (w 2)), .d (I (w 3))]), (0, .var 83 (catV (cv25 b_StandBook) [.d (.sl 4 (List.map e92 b_truths)), .d (I b_lead.weight), .d (I b_lead.along), .d (I b_lead.high), .opq]))], 5, Fr.emp, [], 0⟩ (by kernel_rfl) ?_
  refine AW.sa fokW [] ⟨[(3, .ptr 0 0), (4, .ptr 1 0), (5, .ptr 2 0), (6, .ptr 3 0), (7, .ptr 4 0)], [(4, .var 80 [.d (I (wr (b_lead.weight + c.weight))), .d (I b_lead.along), .d (I b_lead.high)]), (3, .var 80 [.d (I 0), .d (I 0), .d (I 0)]), (2, .var 94 [.d (I c.weight), .d (I c.lean)]), (1, .var 92 [.d (I (w 0)), .d (I (w 1)), .d (I (w 2)), .d (I (w 3))]), (0, .var 83 (catV (cv25 b_StandBook) [.d (.sl 4 (List.map e92 b_truths)), .d (I b_lead.weight), .d (I b_lead.along), .d (I b_lead.high), .opq]))], 5, Fr.emp, [], 0⟩ (by kernel_rfl) ?_
  refine AW.sa fokW [] ⟨[(3, .ptr 0 0), (4, .ptr 1 0), (5, .ptr 2 0), (6, .ptr 3 0), (7, .ptr 4 0)], [(4, .var 80 [.d (I (wr (b_lead.weight + c.weight))), .d (I (wr (b_lead.along + (wr (c.weight * (wr (b_StandBook.Along + c.lean))))))), .d (I b_lead.high)]), (3, .var 80 [.d (I 0), .d (I 0), .d (I 0)]), (2, .var 94 [.d (I c.weight), .d (I c.lean)]), (1, .var 92 [.d (I (w 0)), .d (I (w 1)), .d (I (w 2)), .d (I (w 3))]), (0, .var 83 (catV (cv25 b_StandBook) [.d (.sl 4 (List.map e92 b_truths)), .d (I b_lead.weight), .d (I b_lead.along), .d (I b_lead.high), .opq]))], 5, Fr.emp, [], 0⟩ (by kernel_rfl) ?_
  refine AW.sa fokW [] ⟨[(3, .ptr 0 0), (4, .ptr 1 0), (6, .ptr 3 0), (7, .ptr 4 0)], [(4, .var 80 [.d (I (wr (b_lead.weight + c.weight))), .d (I (wr (b_lead.along + (wr (c.weight * (wr (b_StandBook.Along + c.lean))))))), .d (I (wr (b_lead.high + (wr (c.weight * b_StandBook.High)))))]), (3, .var 80 [.d (I 0), .d (I 0), .d (I 0)]), (1, .var 92 [.d (I (w 0)), .d (I (w 1)), .d (I (w 2)), .d (I (w 3))]), (0, .var 83 (catV (cv25 b_StandBook) [.d (.sl 4 (List.map e92 b_truths)), .d (I b_lead.weight), .d (I b_lead.along), .d (I b_lead.high), .opq]))], 5, Fr.emp, [], 0⟩ (by kernel_rfl) ?_
  refine AW.seqK (fun K_1 hK_1 => ?_)
  refine AW.srwK (fun Q_2 hQ_2 => ?_)
  refine RW.au fokW 3 [] ⟨[(4, .ptr 1 0), (6, .ptr 3 0), (7, .ptr 4 0), (43, .d (.sl 4 (List.map e70 b_StandBook.Parts)))], [(4, .var 80 [.d (I (wr (b_lead.weight + c.weight))), .d (I (wr (b_lead.along + (wr (c.weight * (wr (b_StandBook.Along + c.lean))))))), .d (I (wr (b_lead.high + (wr (c.weight * b_StandBook.High)))))]), (3, .var 80 [.d (I 0), .d (I 0), .d (I 0)]), (1, .var 92 [.d (I (w 0)), .d (I (w 1)), .d (I (w 2)), .d (I (w 3))])], 5, Fr.emp, [], 0⟩ (by kernel_rfl) ?_
  refine RW.one fokW (r_lenX trivial rfl lenm (r_end ?_))
  refine RW.au fokW 1 [] ⟨[(4, .ptr 1 0), (6, .ptr 3 0), (7, .ptr 4 0), (43, .d (.sl 4 (List.map e70 b_StandBook.Parts))), (44, .d (I (b_StandBook.Parts.length : Int))), (45, .d (I 0))], [(4, .var 80 [.d (I (wr (b_lead.weight + c.weight))), .d (I (wr (b_lead.along + (wr (c.weight * (wr (b_StandBook.Along + c.lean))))))), .d (I (wr (b_lead.high + (wr (c.weight * b_StandBook.High)))))]), (3, .var 80 [.d (I 0), .d (I 0), .d (I 0)]), (1, .var 92 [.d (I (w 0)), .d (I (w 1)), .d (I (w 2)), .d (I (w 3))])], 5, Fr.emp, [], 0⟩ (by kernel_rfl) ?_
  refine RW.nil ?_
  refine hQ_2 _ ?_
  refine AW.block ?_
  refine AW.sln (t := 43) rfl (fun hN_3 => ?_)
  rw [List.length_map] at hN_3
  obtain ⟨out_3, hx_3, h⟩ := bsome h
  refine AW.evSK (fun (v : Int) (⟨weight, along, high⟩ : Int × Int × Int) => ⟨[(4, .ptr 1 0), (6, .ptr 3 0), (7, .ptr 4 0), (43, .d (.sl 4 (List.map e70 b_StandBook.Parts))), (44, .d (I (b_StandBook.Parts.length : Int))), (45, .d (I v))], [(4, .var 80 [.d (I weight), .d (I along), .d (I high)]), (3, .var 80 [.d (I 0), .d (I 0), .d (I 0)]), (1, .var 92 [.d (I (w 0)), .d (I (w 1)), .d (I (w 2)), .d (I (w 3))])], 5, Fr.emp, [], 0⟩) (g95_3 w) hx_3 (Can.kp (by kernel_rfl)) (fun v p s_3 hi_3 hl_3 hp_3 c_3 h K_3 hK_3 => ?_) (fun v s_3 hi_3 hl_3 hout => ?_)
  · obtain ⟨weight, along, high⟩ := s_3
    unfold g95_3 at h
    refine AW.sa fokW [] ⟨[(4, .ptr 1 0), (6, .ptr 3 0), (7, .ptr 4 0), (43, .d (.sl 4 (List.map e70 b_StandBook.Parts))), (44, .d (I (b_StandBook.Parts.length : Int))), (45, .d (I v)), (46, .d (.bool (decide (v < (b_StandBook.Parts.length : Int)))))], [(4, .var 80 [.d (I weight), .d (I along), .d (I high)]), (3, .var 80 [.d (I 0), .d (I 0), .d (I 0)]), (1, .var 92 [.d (I (w 0)), .d (I (w 1)), .d (I (w 2)), .d (I (w 3))])], 5, Fr.emp, [], 0⟩ (by kernel_rfl) ?_
    refine AW.seqK (fun K_4 hK_4 => ?_)
    refine AW.cond rfl (fun hb_5 => ?_) (fun hb_5 => False.elim (by have := of_decide_eq_false hb_5; omega))
    refine AW.skip ?_
    refine hK_4 _ ?_
    refine AW.seqK (fun K_6 hK_6 => ?_)
    refine AW.block ?_
    refine AW.srwK (fun Q_7 hQ_7 => ?_)
    refine RW.au fokW 1 [] ⟨[(4, .ptr 1 0), (6, .ptr 3 0), (7, .ptr 4 0), (43, .d (.sl 4 (List.map e70 b_StandBook.Parts))), (44, .d (I (b_StandBook.Parts.length : Int))), (45, .d (I v)), (47, .d (I v))], [(4, .var 80 [.d (I weight), .d (I along), .d (I high)]), (3, .var 80 [.d (I 0), .d (I 0), .d (I 0)]), (1, .var 92 [.d (I (w 0)), .d (I (w 1)), .d (I (w 2)), .d (I (w 3))])], 5, Fr.emp, [], 0⟩ (by kernel_rfl) ?_
    refine RW.one fokW (r_iaD trivial rfl rfl hi_3 (row := e70 p) (mapget hp_3) (r_end ?_))
    refine RW.au fokW 4 [] ⟨[(4, .ptr 1 0), (6, .ptr 3 0), (7, .ptr 4 0), (8, .d (I v)), (9, .ptr 5 0), (43, .d (.sl 4 (List.map e70 b_StandBook.Parts))), (44, .d (I (b_StandBook.Parts.length : Int))), (45, .d (I v))], [(5, .var 70 (cv70 p)), (4, .var 80 [.d (I weight), .d (I along), .d (I high)]), (3, .var 80 [.d (I 0), .d (I 0), .d (I 0)]), (1, .var 92 [.d (I (w 0)), .d (I (w 1)), .d (I (w 2)), .d (I (w 3))])], 6, Fr.emp, [], 0⟩ (by kernel_rfl) ?_
    refine RW.nil ?_
    refine hQ_7 _ ?_
    refine AW.sdrwK fokW (fun Q_8 hQ_8 => ?_)
    refine RunC.auX 3 ⟨[(4, .ptr 1 0), (6, .ptr 3 0), (7, .ptr 4 0), (8, .d (I v)), (9, .ptr 5 0), (43, .d (.sl 4 (List.map e70 b_StandBook.Parts))), (44, .d (I (b_StandBook.Parts.length : Int))), (45, .d (I v)), (51, .d (I weight)), (52, .d (I v))], [(5, .var 70 (cv70 p)), (4, .var 80 [.d (I weight), .d (I along), .d (I high)]), (3, .var 80 [.d (I 0), .d (I 0), .d (I 0)]), (1, .var 92 [.d (I (w 0)), .d (I (w 1)), .d (I (w 2)), .d (I (w 3))])], 6, Fr.emp, [], 0⟩ (by kernel_rfl) ?_
    obtain ⟨j, hv_9, h⟩ := bsome h
    refine r_iaV trivial rfl rfl rfl (ixN_ok hv_9).1 (ixN_ok hv_9).2.1 ?_
    refine r_loadV trivial rfl rfl (u := .d (I (w j))) (agt (f := fun k => .d (I (w k))) hv_9) ?_
    refine RunC.auX 3 ⟨[(4, .ptr 1 0), (6, .ptr 3 0), (7, .ptr 4 0), (8, .d (I v)), (9, .ptr 5 0), (43, .d (.sl 4 (List.map e70 b_StandBook.Parts))), (44, .d (I (b_StandBook.Parts.length : Int))), (45, .d (I v))], [(4, .var 80 [.d (I (wr (weight + (w j)))), .d (I along), .d (I high)]), (5, .var 70 (cv70 p)), (3, .var 80 [.d (I 0), .d (I 0), .d (I 0)]), (1, .var 92 [.d (I (w 0)), .d (I (w 1)), .d (I (w 2)), .d (I (w 3))])], 6, Fr.emp, [], 0⟩ (by kernel_rfl) ?_
    refine RunC.fin ⟨[(4, .ptr 1 0), (6, .ptr 3 0), (7, .ptr 4 0), (8, .d (I v)), (9, .ptr 5 0), (43, .d (.sl 4 (List.map e70 b_StandBook.Parts))), (44, .d (I (b_StandBook.Parts.length : Int))), (45, .d (I v))], [(4, .var 80 [.d (I (wr (weight + (w j)))), .d (I along), .d (I high)]), (5, .var 70 (cv70 p)), (3, .var 80 [.d (I 0), .d (I 0), .d (I 0)]), (1, .var 92 [.d (I (w 0)), .d (I (w 1)), .d (I (w 2)), .d (I (w 3))])], 6, Fr.emp, [], 0⟩ (by kernel_rfl) (by kernel_rfl) ?_
    refine hQ_8 _ ?_
    refine AW.sdrwK fokW (fun Q_10 hQ_10 => ?_)
    refine RunC.auX 3 ⟨[(4, .ptr 1 0), (6, .ptr 3 0), (7, .ptr 4 0), (8, .d (I v)), (9, .ptr 5 0), (43, .d (.sl 4 (List.map e70 b_StandBook.Parts))), (44, .d (I (b_StandBook.Parts.length : Int))), (45, .d (I v)), (58, .d (I along)), (59, .d (I v))], [(4, .var 80 [.d (I (wr (weight + (w j)))), .d (I along), .d (I high)]), (5, .var 70 (cv70 p)), (3, .var 80 [.d (I 0), .d (I 0), .d (I 0)]), (1, .var 92 [.d (I (w 0)), .d (I (w 1)), .d (I (w 2)), .d (I (w 3))])], 6, Fr.emp, [], 0⟩ (by kernel_rfl) ?_
    obtain ⟨j1, hv_11, h⟩ := bsome h
    refine r_iaV trivial rfl rfl rfl (ixN_ok hv_11).1 (ixN_ok hv_11).2.1 ?_
    refine r_loadV trivial rfl rfl (u := .d (I (w j1))) (agt (f := fun k => .d (I (w k))) hv_11) ?_
    refine RunC.auX 6 ⟨[(4, .ptr 1 0), (6, .ptr 3 0), (7, .ptr 4 0), (8, .d (I v)), (9, .ptr 5 0), (43, .d (.sl 4 (List.map e70 b_StandBook.Parts))), (44, .d (I (b_StandBook.Parts.length : Int))), (45, .d (I v))], [(4, .var 80 [.d (I (wr (weight + (w j)))), .d (I (wr (along + (wr ((w j1) * p.Along))))), .d (I high)]), (5, .var 70 (cv70 p)), (3, .var 80 [.d (I 0), .d (I 0), .d (I 0)]), (1, .var 92 [.d (I (w 0)), .d (I (w 1)), .d (I (w 2)), .d (I (w 3))])], 6, Fr.emp, [], 0⟩ (by kernel_rfl) ?_
    refine RunC.fin ⟨[(4, .ptr 1 0), (6, .ptr 3 0), (7, .ptr 4 0), (8, .d (I v)), (9, .ptr 5 0), (43, .d (.sl 4 (List.map e70 b_StandBook.Parts))), (44, .d (I (b_StandBook.Parts.length : Int))), (45, .d (I v))], [(4, .var 80 [.d (I (wr (weight + (w j)))), .d (I (wr (along + (wr ((w j1) * p.Along))))), .d (I high)]), (5, .var 70 (cv70 p)), (3, .var 80 [.d (I 0), .d (I 0), .d (I 0)]), (1, .var 92 [.d (I (w 0)), .d (I (w 1)), .d (I (w 2)), .d (I (w 3))])], 6, Fr.emp, [], 0⟩ (by kernel_rfl) (by kernel_rfl) ?_
    refine hQ_10 _ ?_
    refine AW.drw fokW ?_
    refine RunC.auX 3 ⟨[(4, .ptr 1 0), (6, .ptr 3 0), (7, .ptr 4 0), (9, .ptr 5 0), (43, .d (.sl 4 (List.map e70 b_StandBook.Parts))), (44, .d (I (b_StandBook.Parts.length : Int))), (45, .d (I v)), (68, .d (I high)), (69, .d (I v))], [(4, .var 80 [.d (I (wr (weight + (w j)))), .d (I (wr (along + (wr ((w j1) * p.Along))))), .d (I high)]), (5, .var 70 (cv70 p)), (3, .var 80 [.d (I 0), .d (I 0), .d (I 0)]), (1, .var 92 [.d (I (w 0)), .d (I (w 1)), .d (I (w 2)), .d (I (w 3))])], 6, Fr.emp, [], 0⟩ (by kernel_rfl) ?_
    obtain ⟨j2, hv_13, h⟩ := bsome h
    refine r_iaV trivial rfl rfl rfl (ixN_ok hv_13).1 (ixN_ok hv_13).2.1 ?_
    refine r_loadV trivial rfl rfl (u := .d (I (w j2))) (agt (f := fun k => .d (I (w k))) hv_13) ?_
    refine RunC.auX 6 ⟨[(4, .ptr 1 0), (6, .ptr 3 0), (7, .ptr 4 0), (43, .d (.sl 4 (List.map e70 b_StandBook.Parts))), (44, .d (I (b_StandBook.Parts.length : Int))), (45, .d (I v))], [(4, .var 80 [.d (I (wr (weight + (w j)))), .d (I (wr (along + (wr ((w j1) * p.Along))))), .d (I (wr (high + (wr ((w j2) * p.High)))))]), (5, .var 70 (cv70 p)), (3, .var 80 [.d (I 0), .d (I 0), .d (I 0)]), (1, .var 92 [.d (I (w 0)), .d (I (w 1)), .d (I (w 2)), .d (I (w 3))])], 6, Fr.emp, [], 0⟩ (by kernel_rfl) ?_
    refine RunC.fin ⟨[(4, .ptr 1 0), (6, .ptr 3 0), (7, .ptr 4 0), (43, .d (.sl 4 (List.map e70 b_StandBook.Parts))), (44, .d (I (b_StandBook.Parts.length : Int))), (45, .d (I v))], [(4, .var 80 [.d (I (wr (weight + (w j)))), .d (I (wr (along + (wr ((w j1) * p.Along))))), .d (I (wr (high + (wr ((w j2) * p.High)))))]), (3, .var 80 [.d (I 0), .d (I 0), .d (I 0)]), (1, .var 92 [.d (I (w 0)), .d (I (w 1)), .d (I (w 2)), .d (I (w 3))])], 6, Fr.emp, [], 0⟩ (by kernel_rfl) (by kernel_rfl) ?_
    refine hK_6 _ ?_
    refine AW.ra fokW [] ⟨[(4, .ptr 1 0), (6, .ptr 3 0), (7, .ptr 4 0), (43, .d (.sl 4 (List.map e70 b_StandBook.Parts))), (44, .d (I (b_StandBook.Parts.length : Int))), (45, .d (I (wr (v + 1))))], [(4, .var 80 [.d (I (wr (weight + (w j)))), .d (I (wr (along + (wr ((w j1) * p.Along))))), .d (I (wr (high + (wr ((w j2) * p.High)))))]), (3, .var 80 [.d (I 0), .d (I 0), .d (I 0)]), (1, .var 92 [.d (I (w 0)), .d (I (w 1)), .d (I (w 2)), .d (I (w 3))])], 6, Fr.emp, [], 0⟩ (by kernel_rfl) ?_
    obtain rfl := Option.some.inj h
    have ew : wr (v + 1) = v + 1 := inext (N := (b_StandBook.Parts.length : Int)) (by omega) (by omega) (by omega)
    rw [ew]
    exact hK_3 _ (Can.kp (by kernel_rfl))
  · obtain ⟨weight, along, high⟩ := s_3
    subst hout
    refine AW.sa fokW [] ⟨[(4, .ptr 1 0), (6, .ptr 3 0), (7, .ptr 4 0), (43, .d (.sl 4 (List.map e70 b_StandBook.Parts))), (44, .d (I (b_StandBook.Parts.length : Int))), (45, .d (I v)), (46, .d (.bool (decide (v < (b_StandBook.Parts.length : Int)))))], [(4, .var 80 [.d (I weight), .d (I along), .d (I high)]), (3, .var 80 [.d (I 0), .d (I 0), .d (I 0)]), (1, .var 92 [.d (I (w 0)), .d (I (w 1)), .d (I (w 2)), .d (I (w 3))])], 5, Fr.emp, [], 0⟩ (by kernel_rfl) ?_
    refine AW.seqK (fun K_14 hK_14 => ?_)
    refine AW.cond rfl (fun hb_15 => False.elim (by have := of_decide_eq_true hb_15; omega)) (fun hb_15 => ?_)
    refine AW.exit ?_
    refine hK_1 _ ?_
    refine AW.sa fokW [] ⟨[(6, .ptr 3 0)], [(3, .var 80 [.d (I weight), .d (I along), .d (I high)])], 5, Fr.emp, [], 0⟩ (by kernel_rfl) ?_
    obtain rfl := Option.some.inj h
    exact AW.ret (hR_0 _ (retX (.cons (.agg rfl rfl (Nat.le_of_ble_eq_true rfl)) .nil) (.refl _) rfl (by kernel_rfl) (by kernel_rfl)))
def g123_3 : Int → Int → Int → Option Int := fun v p first1 => some (min first1 p)
def g123 (first : Int) (l : (List Int)) : Option Int := (eachS g123_3 l 0 first).bind fun first1 => some first1
theorem k123 (first : Int) (l : (List Int)) (r : Int) (h : g123 first l = some r) : SCall Tryd.prog Gs 123 [.d (I first), .d (.sl 1 (List.map e3 l))] [] 0 Fr.emp (.d (I r)) [] 0 Fr.emp := by
  unfold g123 at h
  refine SCall.mkK Tryd.func123 c123 rfl rfl (by kernel_rfl) (fun Q_0 hR_0 hN_0 => ?_)
  refine AW.sa fokW [] ⟨[(0, .d (I first)), (1, .d (.sl 1 (List.map e3 l)))], [], 0, Fr.emp, [], 0⟩ (by kernel_rfl) ?_
  refine AW.seqK (fun K_1 hK_1 => ?_)
  refine AW.srwK (fun Q_2 hQ_2 => ?_)
  refine RW.au fokW 1 [] ⟨[(0, .d (I first)), (7, .d (.sl 1 (List.map e3 l)))], [], 0, Fr.emp, [], 0⟩ (by kernel_rfl) ?_
  refine RW.one fokW (r_lenX trivial rfl lenm (r_end ?_))
  refine RW.au fokW 1 [] ⟨[(0, .d (I first)), (7, .d (.sl 1 (List.map e3 l))), (8, .d (I (l.length : Int))), (9, .d (I 0))], [], 0, Fr.emp, [], 0⟩ (by kernel_rfl) ?_
  refine RW.nil ?_
  refine hQ_2 _ ?_
  refine AW.block ?_
  refine AW.sln (t := 7) rfl (fun hN_3 => ?_)
  rw [List.length_map] at hN_3
  obtain ⟨out_3, hx_3, h⟩ := bsome h
  refine AW.evSK (fun (v : Int) (first1 : Int) => ⟨[(0, .d (I first1)), (7, .d (.sl 1 (List.map e3 l))), (8, .d (I (l.length : Int))), (9, .d (I v))], [], 0, Fr.emp, [], 0⟩) g123_3 hx_3 (Can.kp (by kernel_rfl)) (fun v p first1 hi_3 hl_3 hp_3 c_3 h K_3 hK_3 => ?_) (fun v first1 hi_3 hl_3 hout => ?_)
  · unfold g123_3 at h
    refine AW.sa fokW [] ⟨[(0, .d (I first1)), (7, .d (.sl 1 (List.map e3 l))), (8, .d (I (l.length : Int))), (9, .d (I v)), (10, .d (.bool (decide (v < (l.length : Int)))))], [], 0, Fr.emp, [], 0⟩ (by kernel_rfl) ?_
    refine AW.seqK (fun K_4 hK_4 => ?_)
    refine AW.cond rfl (fun hb_5 => ?_) (fun hb_5 => False.elim (by have := of_decide_eq_false hb_5; omega))
    refine AW.skip ?_
    refine hK_4 _ ?_
    refine AW.seqK (fun K_6 hK_6 => ?_)
    refine AW.block ?_
    refine AW.srwK (fun Q_7 hQ_7 => ?_)
    refine RW.one fokW (r_iaD trivial rfl rfl hi_3 (row := e3 p) (mapget hp_3) (r_end ?_))
    refine RW.au fokW 2 [] ⟨[(0, .d (I first1)), (6, .d (I p)), (7, .d (.sl 1 (List.map e3 l))), (8, .d (I (l.length : Int))), (9, .d (I v))], [], 0, Fr.emp, [], 0⟩ (by kernel_rfl) ?_
    refine RW.nil ?_
    refine hQ_7 _ ?_
    refine AW.ra fokW [] ⟨[(0, .d (I (min first1 p))), (7, .d (.sl 1 (List.map e3 l))), (8, .d (I (l.length : Int))), (9, .d (I v))], [], 0, Fr.emp, [], 0⟩ (by kernel_rfl) ?_
    refine hK_6 _ ?_
    refine AW.ra fokW [] ⟨[(0, .d (I (min first1 p))), (7, .d (.sl 1 (List.map e3 l))), (8, .d (I (l.length : Int))), (9, .d (I (wr (v + 1))))], [], 0, Fr.emp, [], 0⟩ (by kernel_rfl) ?_
    obtain rfl := Option.some.inj h
    have ew : wr (v + 1) = v + 1 := inext (N := (l.length : Int)) (by omega) (by omega) (by omega)
    rw [ew]
    exact hK_3 _ (Can.kp (by kernel_rfl))
  · subst hout
    refine AW.sa fokW [] ⟨[(0, .d (I first1)), (7, .d (.sl 1 (List.map e3 l))), (8, .d (I (l.length : Int))), (9, .d (I v)), (10, .d (.bool (decide (v < (l.length : Int)))))], [], 0, Fr.emp, [], 0⟩ (by kernel_rfl) ?_
    refine AW.seqK (fun K_8 hK_8 => ?_)
    refine AW.cond rfl (fun hb_9 => False.elim (by have := of_decide_eq_true hb_9; omega)) (fun hb_9 => ?_)
    refine AW.exit ?_
    refine hK_1 _ ?_
    refine AW.sa fokW [] ⟨[(4, .d (I first1))], [], 0, Fr.emp, [], 0⟩ (by kernel_rfl) ?_
    obtain rfl := Option.some.inj h
    exact AW.ret (hR_0 _ (retX (.cons (.tmp rfl) .nil) (.refl _) rfl (by kernel_rfl) (by kernel_rfl)))
def g121 (b_StandBook : StandBook) (b_truths : (List (Nat → Int))) (b_lead : Stand_load) (l : Stand_load) : Option Int := (g123 (wr ((wr (b_StandBook.Back * l.weight)) + l.along)) [(wr ((wr (b_StandBook.Front * l.weight)) - l.along))]).bind fun r0 => some r0
theorem k121 (b_StandBook : StandBook) (b_truths : (List (Nat → Int))) (b_lead : Stand_load) (l : Stand_load) (r : Int) (h : g121 b_StandBook b_truths b_lead l = some r) : SCall Tryd.prog Gs 121 [.agg [.d (I b_StandBook.Kind), .d (I b_StandBook.Front), .d (I b_StandBook.Back), .d (I b_StandBook.Radius), .d (.sl 4 (List.map e70 b_StandBook.Parts)), .d (I b_StandBook.Along), .d (I b_StandBook.High), .d (I b_StandBook.Lean_), .d (I b_StandBook.Limit), .d (.sl 3 (List.map e65 b_StandBook.Trials)), .d (.sl 4 (List.map e92 b_truths)), .d (I b_lead.weight), .d (I b_lead.along), .d (I b_lead.high), .opq], .agg [.d (I l.weight), .d (I l.along), .d (I l.high)]] [] 0 Fr.emp (.d (I r)) [] 0 Fr.emp := by
  unfold g121 at h
  refine SCall.mkK Tryd.func121 c121 rfl rfl (by kernel_rfl) (fun Q_0 hR_0 hN_0 => ?_)
  refine AW.sa fokW [] ⟨[(2, .ptr 0 0), (3, .ptr 1 0)], [(1, .var 80 [.d (I l.weight), .d (I l.along), .d (I l.high)]), (0, .var 83 (catV (cv25 b_StandBook) [.d (.sl 4 (List.map e92 b_truths)), .d (I b_lead.weight), .d (I b_lead.along), .d (I b_lead.high), .opq]))], 2, Fr.emp, [], 0⟩ (by kernel_rfl) ?_
  refine AW.srwK (fun Q_1 hQ_1 => ?_)
  refine RW.au fokW 19 [] ⟨[(13, .d (I (wr ((wr (b_StandBook.Back * l.weight)) + l.along)))), (23, .own 2 (List.map e3 [(wr ((wr (b_StandBook.Front * l.weight)) - l.along))]).length)], [(2, .row 3 1 (List.map e3 [(wr ((wr (b_StandBook.Front * l.weight)) - l.along))]))], 3, Fr.emp, [], 0⟩ (by kernel_rfl) ?_
  obtain ⟨r0, hx_2, h⟩ := bsome h
  refine RW.one fokW (r_callF (rs := [(2, .row 3 1 (List.map e3 [(wr ((wr (b_StandBook.Front * l.weight)) - l.along))]))]) trivial rfl (k123 (wr ((wr (b_StandBook.Back * l.weight)) + l.along)) [(wr ((wr (b_StandBook.Front * l.weight)) - l.along))] _ hx_2) ⟨rfl, trivial⟩ ⟨.refl _, (.own rfl rfl), trivial⟩ rfl rfl rfl (r_end ?_))
  refine RW.au fokW 1 [] ⟨[(4, .d (I r0))], [], 3, Fr.emp, [], 0⟩ (by kernel_rfl) ?_
  refine RW.nil ?_
  refine hQ_1 _ ?_
  obtain rfl := Option.some.inj h
  exact AW.ret (hR_0 _ (retX (.cons (.tmp rfl) .nil) (.refl _) rfl (by kernel_rfl) (by kernel_rfl)))
def g122 (b_StandBook : StandBook) (b_truths : (List (Nat → Int))) (b_lead : Stand_load) (l : Stand_load) : Option Int := (g123 (wr ((wr (b_StandBook.Back * (wr ((wr (b_StandBook.Radius * l.weight)) - l.high)))) + (wr (b_StandBook.Radius * l.along)))) [(wr ((wr (b_StandBook.Front * (wr ((wr (b_StandBook.Radius * l.weight)) - l.high)))) - (wr (b_StandBook.Radius * l.along))))]).bind fun r0 => some r0
theorem k122 (b_StandBook : StandBook) (b_truths : (List (Nat → Int))) (b_lead : Stand_load) (l : Stand_load) (r : Int) (h : g122 b_StandBook b_truths b_lead l = some r) : SCall Tryd.prog Gs 122 [.agg [.d (I b_StandBook.Kind), .d (I b_StandBook.Front), .d (I b_StandBook.Back), .d (I b_StandBook.Radius), .d (.sl 4 (List.map e70 b_StandBook.Parts)), .d (I b_StandBook.Along), .d (I b_StandBook.High), .d (I b_StandBook.Lean_), .d (I b_StandBook.Limit), .d (.sl 3 (List.map e65 b_StandBook.Trials)), .d (.sl 4 (List.map e92 b_truths)), .d (I b_lead.weight), .d (I b_lead.along), .d (I b_lead.high), .opq], .agg [.d (I l.weight), .d (I l.along), .d (I l.high)]] [] 0 Fr.emp (.d (I r)) [] 0 Fr.emp := by
  unfold g122 at h
  refine SCall.mkK Tryd.func122 c122 rfl rfl (by kernel_rfl) (fun Q_0 hR_0 hN_0 => ?_)
  refine AW.sa fokW [] ⟨[(2, .ptr 0 0), (3, .ptr 1 0)], [(1, .var 80 [.d (I l.weight), .d (I l.along), .d (I l.high)]), (0, .var 83 (catV (cv25 b_StandBook) [.d (.sl 4 (List.map e92 b_truths)), .d (I b_lead.weight), .d (I b_lead.along), .d (I b_lead.high), .opq]))], 2, Fr.emp, [], 0⟩ (by kernel_rfl) ?_
  refine AW.sa fokW [] ⟨[(2, .ptr 0 0), (3, .ptr 1 0), (5, .d (I (wr ((wr (b_StandBook.Radius * l.weight)) - l.high))))], [(1, .var 80 [.d (I l.weight), .d (I l.along), .d (I l.high)]), (0, .var 83 (catV (cv25 b_StandBook) [.d (.sl 4 (List.map e92 b_truths)), .d (I b_lead.weight), .d (I b_lead.along), .d (I b_lead.high), .opq]))], 2, Fr.emp, [], 0⟩ (by kernel_rfl) ?_
  refine AW.srwK (fun Q_1 hQ_1 => ?_)
  refine RW.au fokW 25 [] ⟨[(26, .d (I (wr ((wr (b_StandBook.Back * (wr ((wr (b_StandBook.Radius * l.weight)) - l.high)))) + (wr (b_StandBook.Radius * l.along)))))), (39, .own 2 (List.map e3 [(wr ((wr (b_StandBook.Front * (wr ((wr (b_StandBook.Radius * l.weight)) - l.high)))) - (wr (b_StandBook.Radius * l.along))))]).length)], [(2, .row 3 1 (List.map e3 [(wr ((wr (b_StandBook.Front * (wr ((wr (b_StandBook.Radius * l.weight)) - l.high)))) - (wr (b_StandBook.Radius * l.along))))]))], 3, Fr.emp, [], 0⟩ (by kernel_rfl) ?_
  obtain ⟨r0, hx_2, h⟩ := bsome h
  refine RW.one fokW (r_callF (rs := [(2, .row 3 1 (List.map e3 [(wr ((wr (b_StandBook.Front * (wr ((wr (b_StandBook.Radius * l.weight)) - l.high)))) - (wr (b_StandBook.Radius * l.along))))]))]) trivial rfl (k123 (wr ((wr (b_StandBook.Back * (wr ((wr (b_StandBook.Radius * l.weight)) - l.high)))) + (wr (b_StandBook.Radius * l.along)))) [(wr ((wr (b_StandBook.Front * (wr ((wr (b_StandBook.Radius * l.weight)) - l.high)))) - (wr (b_StandBook.Radius * l.along))))] _ hx_2) ⟨rfl, trivial⟩ ⟨.refl _, (.own rfl rfl), trivial⟩ rfl rfl rfl (r_end ?_))
  refine RW.au fokW 1 [] ⟨[(4, .d (I r0))], [], 3, Fr.emp, [], 0⟩ (by kernel_rfl) ?_
  refine RW.nil ?_
  refine hQ_1 _ ?_
  obtain rfl := Option.some.inj h
  exact AW.ret (hR_0 _ (retX (.cons (.tmp rfl) .nil) (.refl _) rfl (by kernel_rfl) (by kernel_rfl)))
def g70 (b_StandBook : StandBook) (b_truths : (List (Nat → Int))) (b_lead : Stand_load) (w : (Nat → Int)) (c : Stand_child) : Option Bool := (ixN 2 b_StandBook.Kind).bind fun j => match j with | 0 => (g95 b_StandBook b_truths b_lead w c).bind fun r0 => (g121 b_StandBook b_truths b_lead r0).bind fun r0_1 => some (decide (r0_1 < 0)) | 1 => (g95 b_StandBook b_truths b_lead w c).bind fun r0_2 => (g122 b_StandBook b_truths b_lead r0_2).bind fun r0_1_1 => some (decide (r0_1_1 < 0)) | _ => none
theorem k70 (b_StandBook : StandBook) (b_truths : (List (Nat → Int))) (b_lead : Stand_load) (w : (Nat → Int)) (c : Stand_child) (r : Bool) (h : g70 b_StandBook b_truths b_lead w c = some r) : SCall Tryd.prog Gs 70 [.agg [.d (I b_StandBook.Kind), .d (I b_StandBook.Front), .d (I b_StandBook.Back), .d (I b_StandBook.Radius), .d (.sl 4 (List.map e70 b_StandBook.Parts)), .d (I b_StandBook.Along), .d (I b_StandBook.High), .d (I b_StandBook.Lean_), .d (I b_StandBook.Limit), .d (.sl 3 (List.map e65 b_StandBook.Trials)), .d (.sl 4 (List.map e92 b_truths)), .d (I b_lead.weight), .d (I b_lead.along), .d (I b_lead.high), .opq], .agg [.d (I (w 0)), .d (I (w 1)), .d (I (w 2)), .d (I (w 3))], .agg [.d (I c.weight), .d (I c.lean)]] [] 0 Fr.emp (.d (.bool r)) [] 0 Fr.emp := by
  unfold g70 at h
  refine SCall.mkK Tryd.func70 c70 rfl rfl (by kernel_rfl) (fun Q_0 hR_0 hN_0 => ?_)
  refine AW.sa fokW [] ⟨[(3, .ptr 0 0), (4, .ptr 1 0), (5, .ptr 2 0)], [(2, .var 94 [.d (I c.weight), .d (I c.lean)]), (1, .var 92 [.d (I (w 0)), .d (I (w 1)), .d (I (w 2)), .d (I (w 3))]), (0, .var 83 (catV (cv25 b_StandBook) [.d (.sl 4 (List.map e92 b_truths)), .d (I b_lead.weight), .d (I b_lead.along), .d (I b_lead.high), .opq]))], 3, Fr.emp, [], 0⟩ (by kernel_rfl) ?_
  refine AW.sdrwK fokW (fun Q_1 hQ_1 => ?_)
  refine RunC.auX 3 ⟨[(3, .ptr 0 0), (4, .ptr 1 0), (5, .ptr 2 0), (9, .d (I b_StandBook.Kind))], [(2, .var 94 [.d (I c.weight), .d (I c.lean)]), (1, .var 92 [.d (I (w 0)), .d (I (w 1)), .d (I (w 2)), .d (I (w 3))]), (0, .var 83 (catV (cv25 b_StandBook) [.d (.sl 4 (List.map e92 b_truths)), .d (I b_lead.weight), .d (I b_lead.along), .d (I b_lead.high), .opq]))], 3, Fr.emp, [], 0⟩ (by kernel_rfl) ?_
  obtain ⟨j, hv_2, h⟩ := bsome h
  rcases j with _ | _ | j
  · refine r_iaF trivial rfl rfl (ixN_ok hv_2).1 (ixN_ok hv_2).2.1 ?_
    refine r_loadF trivial rfl (u := .fn 121) (by rw [(ixN_ok hv_2).2.2]; rfl) ?_
    refine RunC.auX 4 ⟨[(11, .d (.fn 121)), (12, .agg [.d (I b_StandBook.Kind), .d (I b_StandBook.Front), .d (I b_StandBook.Back), .d (I b_StandBook.Radius), .d (.sl 4 (List.map e70 b_StandBook.Parts)), .d (I b_StandBook.Along), .d (I b_StandBook.High), .d (I b_StandBook.Lean_), .d (I b_StandBook.Limit), .d (.sl 3 (List.map e65 b_StandBook.Trials)), .d (.sl 4 (List.map e92 b_truths)), .d (I b_lead.weight), .d (I b_lead.along), .d (I b_lead.high), .opq]), (13, .agg [.d (I b_StandBook.Kind), .d (I b_StandBook.Front), .d (I b_StandBook.Back), .d (I b_StandBook.Radius), .d (.sl 4 (List.map e70 b_StandBook.Parts)), .d (I b_StandBook.Along), .d (I b_StandBook.High), .d (I b_StandBook.Lean_), .d (I b_StandBook.Limit), .d (.sl 3 (List.map e65 b_StandBook.Trials)), .d (.sl 4 (List.map e92 b_truths)), .d (I b_lead.weight), .d (I b_lead.along), .d (I b_lead.high), .opq]), (14, .agg [.d (I (w 0)), .d (I (w 1)), .d (I (w 2)), .d (I (w 3))]), (15, .agg [.d (I c.weight), .d (I c.lean)])], [(2, .var 94 [.d (I c.weight), .d (I c.lean)]), (1, .var 92 [.d (I (w 0)), .d (I (w 1)), .d (I (w 2)), .d (I (w 3))]), (0, .var 83 (catV (cv25 b_StandBook) [.d (.sl 4 (List.map e92 b_truths)), .d (I b_lead.weight), .d (I b_lead.along), .d (I b_lead.high), .opq]))], 3, Fr.emp, [], 0⟩ (by kernel_rfl) ?_
    obtain ⟨r0, hx_3, h⟩ := bsome h
    refine r_call trivial rfl (k95 b_StandBook b_truths b_lead w c _ hx_3) rfl rfl ?_
    obtain ⟨r0_1, hx_4, h⟩ := bsome h
    refine r_callvZ (zr := []) trivial rfl (.fn _) (by kernel_rfl) rfl (k121 b_StandBook b_truths b_lead r0 _ hx_4) trivial ⟨.refl _, .refl _, trivial⟩ rfl rfl rfl rfl ?_
    refine RunC.auX 2 ⟨[(6, .d (.bool (decide (r0_1 < 0))))], [(2, .var 94 [.d (I c.weight), .d (I c.lean)]), (1, .var 92 [.d (I (w 0)), .d (I (w 1)), .d (I (w 2)), .d (I (w 3))]), (0, .var 83 (catV (cv25 b_StandBook) [.d (.sl 4 (List.map e92 b_truths)), .d (I b_lead.weight), .d (I b_lead.along), .d (I b_lead.high), .opq]))], 3, Fr.emp, [], 0⟩ (by kernel_rfl) ?_
    refine RunC.fin ⟨[(6, .d (.bool (decide (r0_1 < 0))))], [], 3, Fr.emp, [], 0⟩ (by kernel_rfl) (by kernel_rfl) ?_
    refine hQ_1 _ ?_
    obtain rfl := Option.some.inj h
    exact AW.ret (hR_0 _ (retX (.cons (.tmp rfl) .nil) (.refl _) rfl (by kernel_rfl) (by kernel_rfl)))
  · refine r_iaF trivial rfl rfl (ixN_ok hv_2).1 (ixN_ok hv_2).2.1 ?_
    refine r_loadF trivial rfl (u := .fn 122) (by rw [(ixN_ok hv_2).2.2]; rfl) ?_
    refine RunC.auX 4 ⟨[(11, .d (.fn 122)), (12, .agg [.d (I b_StandBook.Kind), .d (I b_StandBook.Front), .d (I b_StandBook.Back), .d (I b_StandBook.Radius), .d (.sl 4 (List.map e70 b_StandBook.Parts)), .d (I b_StandBook.Along), .d (I b_StandBook.High), .d (I b_StandBook.Lean_), .d (I b_StandBook.Limit), .d (.sl 3 (List.map e65 b_StandBook.Trials)), .d (.sl 4 (List.map e92 b_truths)), .d (I b_lead.weight), .d (I b_lead.along), .d (I b_lead.high), .opq]), (13, .agg [.d (I b_StandBook.Kind), .d (I b_StandBook.Front), .d (I b_StandBook.Back), .d (I b_StandBook.Radius), .d (.sl 4 (List.map e70 b_StandBook.Parts)), .d (I b_StandBook.Along), .d (I b_StandBook.High), .d (I b_StandBook.Lean_), .d (I b_StandBook.Limit), .d (.sl 3 (List.map e65 b_StandBook.Trials)), .d (.sl 4 (List.map e92 b_truths)), .d (I b_lead.weight), .d (I b_lead.along), .d (I b_lead.high), .opq]), (14, .agg [.d (I (w 0)), .d (I (w 1)), .d (I (w 2)), .d (I (w 3))]), (15, .agg [.d (I c.weight), .d (I c.lean)])], [(2, .var 94 [.d (I c.weight), .d (I c.lean)]), (1, .var 92 [.d (I (w 0)), .d (I (w 1)), .d (I (w 2)), .d (I (w 3))]), (0, .var 83 (catV (cv25 b_StandBook) [.d (.sl 4 (List.map e92 b_truths)), .d (I b_lead.weight), .d (I b_lead.along), .d (I b_lead.high), .opq]))], 3, Fr.emp, [], 0⟩ (by kernel_rfl) ?_
    obtain ⟨r0_2, hx_5, h⟩ := bsome h
    refine r_call trivial rfl (k95 b_StandBook b_truths b_lead w c _ hx_5) rfl rfl ?_
    obtain ⟨r0_1_1, hx_6, h⟩ := bsome h
    refine r_callvZ (zr := []) trivial rfl (.fn _) (by kernel_rfl) rfl (k122 b_StandBook b_truths b_lead r0_2 _ hx_6) trivial ⟨.refl _, .refl _, trivial⟩ rfl rfl rfl rfl ?_
    refine RunC.auX 2 ⟨[(6, .d (.bool (decide (r0_1_1 < 0))))], [(2, .var 94 [.d (I c.weight), .d (I c.lean)]), (1, .var 92 [.d (I (w 0)), .d (I (w 1)), .d (I (w 2)), .d (I (w 3))]), (0, .var 83 (catV (cv25 b_StandBook) [.d (.sl 4 (List.map e92 b_truths)), .d (I b_lead.weight), .d (I b_lead.along), .d (I b_lead.high), .opq]))], 3, Fr.emp, [], 0⟩ (by kernel_rfl) ?_
    refine RunC.fin ⟨[(6, .d (.bool (decide (r0_1_1 < 0))))], [], 3, Fr.emp, [], 0⟩ (by kernel_rfl) (by kernel_rfl) ?_
    refine hQ_1 _ ?_
    obtain rfl := Option.some.inj h
    exact AW.ret (hR_0 _ (retX (.cons (.tmp rfl) .nil) (.refl _) rfl (by kernel_rfl) (by kernel_rfl)))
  · cases h
def g85_3 (b_StandBook : StandBook) (b_truths : (List (Nat → Int))) (b_lead : Stand_load) (w : (Nat → Int)) (but : (List Int)) : Int → StandTrial → Unit → Option (Ctl (Unit) (Bool)) := fun v p _ => (g101 but v).bind fun r0 => bif (!r0) then ((g70 b_StandBook b_truths b_lead w (Stand_child.mk p.Weight p.Lean_)).bind fun r0_4 => bif (true != (r0_4 == p.Tipped)) then (some (.brk false)) else (some (.next ()))) else (some (.next ()))
def g85 (b_StandBook : StandBook) (b_truths : (List (Nat → Int))) (b_lead : Stand_load) (w : (Nat → Int)) (but : (List Int)) : Option Bool := bindC (eachC (g85_3 b_StandBook b_truths b_lead w but) b_StandBook.Trials 0 ()) fun _ => some true
theorem k85 (b_StandBook : StandBook) (b_truths : (List (Nat → Int))) (b_lead : Stand_load) (w : (Nat → Int)) (but : (List Int)) (r : Bool) (h : g85 b_StandBook b_truths b_lead w but = some r) : SCall Tryd.prog Gs 85 [.agg [.d (I b_StandBook.Kind), .d (I b_StandBook.Front), .d (I b_StandBook.Back), .d (I b_StandBook.Radius), .d (.sl 4 (List.map e70 b_StandBook.Parts)), .d (I b_StandBook.Along), .d (I b_StandBook.High), .d (I b_StandBook.Lean_), .d (I b_StandBook.Limit), .d (.sl 3 (List.map e65 b_StandBook.Trials)), .d (.sl 4 (List.map e92 b_truths)), .d (I b_lead.weight), .d (I b_lead.along), .d (I b_lead.high), .opq], .agg [.d (I (w 0)), .d (I (w 1)), .d (I (w 2)), .d (I (w 3))], .d (.sl 1 (List.map e3 but))] [] 0 Fr.emp (.d (.bool r)) [] 0 Fr.emp := by
  unfold g85 at h
  refine SCall.mkK Tryd.func85 c85 rfl rfl (by kernel_rfl) (fun Q_0 hR_0 hN_0 => ?_)
  refine AW.sa fokW [] ⟨[(2, .d (.sl 1 (List.map e3 but))), (3, .ptr 0 0), (4, .ptr 1 0)], [(1, .var 92 [.d (I (w 0)), .d (I (w 1)), .d (I (w 2)), .d (I (w 3))]), (0, .var 83 (catV (cv25 b_StandBook) [.d (.sl 4 (List.map e92 b_truths)), .d (I b_lead.weight), .d (I b_lead.along), .d (I b_lead.high), .opq]))], 2, Fr.emp, [], 0⟩ (by kernel_rfl) ?_
  refine AW.seqK (fun K_1 hK_1 => ?_)
  refine AW.srwK (fun Q_2 hQ_2 => ?_)
  refine RW.au fokW 3 [] ⟨[(2, .d (.sl 1 (List.map e3 but))), (3, .ptr 0 0), (4, .ptr 1 0), (11, .d (.sl 3 (List.map e65 b_StandBook.Trials)))], [(1, .var 92 [.d (I (w 0)), .d (I (w 1)), .d (I (w 2)), .d (I (w 3))]), (0, .var 83 (catV (cv25 b_StandBook) [.d (.sl 4 (List.map e92 b_truths)), .d (I b_lead.weight), .d (I b_lead.along), .d (I b_lead.high), .opq]))], 2, Fr.emp, [], 0⟩ (by kernel_rfl) ?_
  refine RW.one fokW (r_lenX trivial rfl lenm (r_end ?_))
  refine RW.au fokW 1 [] ⟨[(2, .d (.sl 1 (List.map e3 but))), (3, .ptr 0 0), (4, .ptr 1 0), (11, .d (.sl 3 (List.map e65 b_StandBook.Trials))), (12, .d (I (b_StandBook.Trials.length : Int))), (13, .d (I 0))], [(1, .var 92 [.d (I (w 0)), .d (I (w 1)), .d (I (w 2)), .d (I (w 3))]), (0, .var 83 (catV (cv25 b_StandBook) [.d (.sl 4 (List.map e92 b_truths)), .d (I b_lead.weight), .d (I b_lead.along), .d (I b_lead.high), .opq]))], 2, Fr.emp, [], 0⟩ (by kernel_rfl) ?_
  refine RW.nil ?_
  refine hQ_2 _ ?_
  refine AW.block ?_
  refine AW.sln (t := 11) rfl (fun hN_3 => ?_)
  rw [List.length_map] at hN_3
  obtain ⟨out_3, hx_3, hk_3⟩ := bsomeC h
  refine AW.evCK (fun (v : Int) (_ : Unit) => ⟨[(2, .d (.sl 1 (List.map e3 but))), (3, .ptr 0 0), (4, .ptr 1 0), (11, .d (.sl 3 (List.map e65 b_StandBook.Trials))), (12, .d (I (b_StandBook.Trials.length : Int))), (13, .d (I v))], [(1, .var 92 [.d (I (w 0)), .d (I (w 1)), .d (I (w 2)), .d (I (w 3))]), (0, .var 83 (catV (cv25 b_StandBook) [.d (.sl 4 (List.map e92 b_truths)), .d (I b_lead.weight), .d (I b_lead.along), .d (I b_lead.high), .opq]))], 2, Fr.emp, [], 0⟩) (g85_3 b_StandBook b_truths b_lead w but) hx_3 (Can.kp (by kernel_rfl)) (fun v p s_3 hi_3 hl_3 hp_3 c_3 h hb_3 K_3 hK_3 => ?_) (fun v s_3 hi_3 hl_3 hout => ?_)
  · unfold g85_3 at h
    refine AW.sa fokW [] ⟨[(2, .d (.sl 1 (List.map e3 but))), (3, .ptr 0 0), (4, .ptr 1 0), (11, .d (.sl 3 (List.map e65 b_StandBook.Trials))), (12, .d (I (b_StandBook.Trials.length : Int))), (13, .d (I v)), (14, .d (.bool (decide (v < (b_StandBook.Trials.length : Int)))))], [(1, .var 92 [.d (I (w 0)), .d (I (w 1)), .d (I (w 2)), .d (I (w 3))]), (0, .var 83 (catV (cv25 b_StandBook) [.d (.sl 4 (List.map e92 b_truths)), .d (I b_lead.weight), .d (I b_lead.along), .d (I b_lead.high), .opq]))], 2, Fr.emp, [], 0⟩ (by kernel_rfl) ?_
    refine AW.seqK (fun K_4 hK_4 => ?_)
    refine AW.cond rfl (fun hb_5 => ?_) (fun hb_5 => False.elim (by have := of_decide_eq_false hb_5; omega))
    refine AW.skip ?_
    refine hK_4 _ ?_
    refine AW.seqK (fun K_6 hK_6 => ?_)
    refine AW.block ?_
    refine AW.srwK (fun Q_7 hQ_7 => ?_)
    refine RW.au fokW 1 [] ⟨[(2, .d (.sl 1 (List.map e3 but))), (3, .ptr 0 0), (4, .ptr 1 0), (11, .d (.sl 3 (List.map e65 b_StandBook.Trials))), (12, .d (I (b_StandBook.Trials.length : Int))), (13, .d (I v)), (15, .d (I v))], [(1, .var 92 [.d (I (w 0)), .d (I (w 1)), .d (I (w 2)), .d (I (w 3))]), (0, .var 83 (catV (cv25 b_StandBook) [.d (.sl 4 (List.map e92 b_truths)), .d (I b_lead.weight), .d (I b_lead.along), .d (I b_lead.high), .opq]))], 2, Fr.emp, [], 0⟩ (by kernel_rfl) ?_
    refine RW.one fokW (r_iaD trivial rfl rfl hi_3 (row := e65 p) (mapget hp_3) (r_end ?_))
    refine RW.au fokW 4 [] ⟨[(2, .d (.sl 1 (List.map e3 but))), (3, .ptr 0 0), (4, .ptr 1 0), (7, .d (I v)), (8, .ptr 2 0), (11, .d (.sl 3 (List.map e65 b_StandBook.Trials))), (12, .d (I (b_StandBook.Trials.length : Int))), (13, .d (I v))], [(2, .var 65 [.d (I p.Weight), .d (I p.Lean_), .d (.bool p.Tipped)]), (1, .var 92 [.d (I (w 0)), .d (I (w 1)), .d (I (w 2)), .d (I (w 3))]), (0, .var 83 (catV (cv25 b_StandBook) [.d (.sl 4 (List.map e92 b_truths)), .d (I b_lead.weight), .d (I b_lead.along), .d (I b_lead.high), .opq]))], 3, Fr.emp, [], 0⟩ (by kernel_rfl) ?_
    refine RW.nil ?_
    refine hQ_7 _ ?_
    refine AW.sdrwK fokW (fun Q_8 hQ_8 => ?_)
    refine RunC.auX 2 ⟨[(2, .d (.sl 1 (List.map e3 but))), (3, .ptr 0 0), (4, .ptr 1 0), (8, .ptr 2 0), (11, .d (.sl 3 (List.map e65 b_StandBook.Trials))), (12, .d (I (b_StandBook.Trials.length : Int))), (13, .d (I v)), (18, .d (.sl 1 (List.map e3 but))), (19, .d (I v))], [(2, .var 65 [.d (I p.Weight), .d (I p.Lean_), .d (.bool p.Tipped)]), (1, .var 92 [.d (I (w 0)), .d (I (w 1)), .d (I (w 2)), .d (I (w 3))]), (0, .var 83 (catV (cv25 b_StandBook) [.d (.sl 4 (List.map e92 b_truths)), .d (I b_lead.weight), .d (I b_lead.along), .d (I b_lead.high), .opq]))], 3, Fr.emp, [], 0⟩ (by kernel_rfl) ?_
    obtain ⟨r0, hx_9, h⟩ := bsome h
    refine r_call trivial rfl (k101 but v _ hx_9) rfl rfl ?_
    refine RunC.auX 2 ⟨[(2, .d (.sl 1 (List.map e3 but))), (3, .ptr 0 0), (4, .ptr 1 0), (8, .ptr 2 0), (11, .d (.sl 3 (List.map e65 b_StandBook.Trials))), (12, .d (I (b_StandBook.Trials.length : Int))), (13, .d (I v)), (22, .d (.bool (!r0)))], [(2, .var 65 [.d (I p.Weight), .d (I p.Lean_), .d (.bool p.Tipped)]), (1, .var 92 [.d (I (w 0)), .d (I (w 1)), .d (I (w 2)), .d (I (w 3))]), (0, .var 83 (catV (cv25 b_StandBook) [.d (.sl 4 (List.map e92 b_truths)), .d (I b_lead.weight), .d (I b_lead.along), .d (I b_lead.high), .opq]))], 3, Fr.emp, [], 0⟩ (by kernel_rfl) ?_
    refine r_split 22 rfl (fun hb_10 => ?_) (fun hb_10 => ?_)
    · have h := ifT hb_10 h
      refine RunC.auX 7 ⟨[(2, .d (.sl 1 (List.map e3 but))), (3, .ptr 0 0), (4, .ptr 1 0), (8, .ptr 2 0), (11, .d (.sl 3 (List.map e65 b_StandBook.Trials))), (12, .d (I (b_StandBook.Trials.length : Int))), (13, .d (I v)), (22, .d (.bool true)), (23, .agg [.d (I b_StandBook.Kind), .d (I b_StandBook.Front), .d (I b_StandBook.Back), .d (I b_StandBook.Radius), .d (.sl 4 (List.map e70 b_StandBook.Parts)), .d (I b_StandBook.Along), .d (I b_StandBook.High), .d (I b_StandBook.Lean_), .d (I b_StandBook.Limit), .d (.sl 3 (List.map e65 b_StandBook.Trials)), .d (.sl 4 (List.map e92 b_truths)), .d (I b_lead.weight), .d (I b_lead.along), .d (I b_lead.high), .opq]), (24, .agg [.d (I (w 0)), .d (I (w 1)), .d (I (w 2)), .d (I (w 3))]), (25, .ptr 2 0), (26, .d (I p.Weight)), (27, .ptr 2 1), (28, .d (I p.Lean_)), (29, .agg [.d (I p.Weight), .d (I p.Lean_)])], [(2, .var 65 [.d (I p.Weight), .d (I p.Lean_), .d (.bool p.Tipped)]), (1, .var 92 [.d (I (w 0)), .d (I (w 1)), .d (I (w 2)), .d (I (w 3))]), (0, .var 83 (catV (cv25 b_StandBook) [.d (.sl 4 (List.map e92 b_truths)), .d (I b_lead.weight), .d (I b_lead.along), .d (I b_lead.high), .opq]))], 3, Fr.emp, [], 0⟩ (by kernel_rfl) ?_
      obtain ⟨r0_4, hx_11, h⟩ := bsome h
      refine r_call rfl rfl (k70 b_StandBook b_truths b_lead w (Stand_child.mk p.Weight p.Lean_) _ hx_11) rfl rfl ?_
      refine RunC.auX 4 ⟨[(2, .d (.sl 1 (List.map e3 but))), (3, .ptr 0 0), (4, .ptr 1 0), (11, .d (.sl 3 (List.map e65 b_StandBook.Trials))), (12, .d (I (b_StandBook.Trials.length : Int))), (13, .d (I v)), (23, .agg [.d (I b_StandBook.Kind), .d (I b_StandBook.Front), .d (I b_StandBook.Back), .d (I b_StandBook.Radius), .d (.sl 4 (List.map e70 b_StandBook.Parts)), .d (I b_StandBook.Along), .d (I b_StandBook.High), .d (I b_StandBook.Lean_), .d (I b_StandBook.Limit), .d (.sl 3 (List.map e65 b_StandBook.Trials)), .d (.sl 4 (List.map e92 b_truths)), .d (I b_lead.weight), .d (I b_lead.along), .d (I b_lead.high), .opq]), (24, .agg [.d (I (w 0)), .d (I (w 1)), .d (I (w 2)), .d (I (w 3))]), (25, .ptr 2 0), (26, .d (I p.Weight)), (27, .ptr 2 1), (28, .d (I p.Lean_)), (29, .agg [.d (I p.Weight), .d (I p.Lean_)]), (30, .d (.bool r0_4)), (31, .ptr 2 2), (32, .d (.bool p.Tipped)), (33, .d (.bool (true != (r0_4 == p.Tipped)))), (34, .d (.bool (true != (r0_4 == p.Tipped))))], [(2, .var 65 [.d (I p.Weight), .d (I p.Lean_), .d (.bool p.Tipped)]), (1, .var 92 [.d (I (w 0)), .d (I (w 1)), .d (I (w 2)), .d (I (w 3))]), (0, .var 83 (catV (cv25 b_StandBook) [.d (.sl 4 (List.map e92 b_truths)), .d (I b_lead.weight), .d (I b_lead.along), .d (I b_lead.high), .opq]))], 3, Fr.emp, [], 0⟩ (by kernel_rfl) ?_
      refine RunC.fin ⟨[(2, .d (.sl 1 (List.map e3 but))), (3, .ptr 0 0), (4, .ptr 1 0), (11, .d (.sl 3 (List.map e65 b_StandBook.Trials))), (12, .d (I (b_StandBook.Trials.length : Int))), (13, .d (I v)), (23, .agg [.d (I b_StandBook.Kind), .d (I b_StandBook.Front), .d (I b_StandBook.Back), .d (I b_StandBook.Radius), .d (.sl 4 (List.map e70 b_StandBook.Parts)), .d (I b_StandBook.Along), .d (I b_StandBook.High), .d (I b_StandBook.Lean_), .d (I b_StandBook.Limit), .d (.sl 3 (List.map e65 b_StandBook.Trials)), .d (.sl 4 (List.map e92 b_truths)), .d (I b_lead.weight), .d (I b_lead.along), .d (I b_lead.high), .opq]), (24, .agg [.d (I (w 0)), .d (I (w 1)), .d (I (w 2)), .d (I (w 3))]), (25, .ptr 2 0), (26, .d (I p.Weight)), (27, .ptr 2 1), (28, .d (I p.Lean_)), (29, .agg [.d (I p.Weight), .d (I p.Lean_)]), (30, .d (.bool r0_4)), (31, .ptr 2 2), (32, .d (.bool p.Tipped)), (33, .d (.bool (true != (r0_4 == p.Tipped)))), (34, .d (.bool (true != (r0_4 == p.Tipped))))], [(2, .var 65 [.d (I p.Weight), .d (I p.Lean_), .d (.bool p.Tipped)]), (1, .var 92 [.d (I (w 0)), .d (I (w 1)), .d (I (w 2)), .d (I (w 3))]), (0, .var 83 (catV (cv25 b_StandBook) [.d (.sl 4 (List.map e92 b_truths)), .d (I b_lead.weight), .d (I b_lead.along), .d (I b_lead.high), .opq]))], 3, Fr.emp, [], 0⟩ (by kernel_rfl) (by kernel_rfl) ?_
      refine hQ_8 _ ?_
      refine AW.cond rfl (fun hb_12 => ?_) (fun hb_12 => ?_)
      · have h := ifT hb_12 h
        refine AW.sa fokW [] ⟨[(6, .d (.bool false))], [], 3, Fr.emp, [], 0⟩ (by kernel_rfl) ?_
        obtain rfl := Option.some.inj h
        have e_1 := hb_3 _ rfl
        subst e_1
        obtain rfl := Aft.bk hk_3
        exact AW.ret (hR_0 _ (retX (.cons (.tmp rfl) .nil) (.refl _) rfl (by kernel_rfl) (by kernel_rfl)))
      · have h := ifF hb_12 h
        refine AW.skip ?_
        refine hK_6 _ ?_
        refine AW.ra fokW [] ⟨[(2, .d (.sl 1 (List.map e3 but))), (3, .ptr 0 0), (4, .ptr 1 0), (11, .d (.sl 3 (List.map e65 b_StandBook.Trials))), (12, .d (I (b_StandBook.Trials.length : Int))), (13, .d (I (wr (v + 1)))), (23, .agg [.d (I b_StandBook.Kind), .d (I b_StandBook.Front), .d (I b_StandBook.Back), .d (I b_StandBook.Radius), .d (.sl 4 (List.map e70 b_StandBook.Parts)), .d (I b_StandBook.Along), .d (I b_StandBook.High), .d (I b_StandBook.Lean_), .d (I b_StandBook.Limit), .d (.sl 3 (List.map e65 b_StandBook.Trials)), .d (.sl 4 (List.map e92 b_truths)), .d (I b_lead.weight), .d (I b_lead.along), .d (I b_lead.high), .opq]), (24, .agg [.d (I (w 0)), .d (I (w 1)), .d (I (w 2)), .d (I (w 3))]), (25, .ptr 2 0), (26, .d (I p.Weight)), (27, .ptr 2 1), (28, .d (I p.Lean_)), (29, .agg [.d (I p.Weight), .d (I p.Lean_)]), (30, .d (.bool r0_4)), (31, .ptr 2 2), (32, .d (.bool p.Tipped)), (33, .d (.bool (true != (r0_4 == p.Tipped))))], [(2, .var 65 [.d (I p.Weight), .d (I p.Lean_), .d (.bool p.Tipped)]), (1, .var 92 [.d (I (w 0)), .d (I (w 1)), .d (I (w 2)), .d (I (w 3))]), (0, .var 83 (catV (cv25 b_StandBook) [.d (.sl 4 (List.map e92 b_truths)), .d (I b_lead.weight), .d (I b_lead.along), .d (I b_lead.high), .opq]))], 3, Fr.emp, [], 0⟩ (by kernel_rfl) ?_
        obtain rfl := Option.some.inj h
        have ew : wr (v + 1) = v + 1 := inext (N := (b_StandBook.Trials.length : Int)) (by omega) (by omega) (by omega)
        rw [ew]
        exact hK_3 _ _ rfl (Can.kp (by kernel_rfl))
    · have h := ifF hb_10 h
      refine RunC.auX 12 ⟨[(2, .d (.sl 1 (List.map e3 but))), (3, .ptr 0 0), (4, .ptr 1 0), (11, .d (.sl 3 (List.map e65 b_StandBook.Trials))), (12, .d (I (b_StandBook.Trials.length : Int))), (13, .d (I v)), (23, .undef), (24, .undef), (25, .undef), (26, .undef), (27, .undef), (28, .undef), (29, .undef), (30, .undef), (31, .undef), (32, .undef), (33, .undef), (34, .d (.bool false))], [(2, .var 65 [.d (I p.Weight), .d (I p.Lean_), .d (.bool p.Tipped)]), (1, .var 92 [.d (I (w 0)), .d (I (w 1)), .d (I (w 2)), .d (I (w 3))]), (0, .var 83 (catV (cv25 b_StandBook) [.d (.sl 4 (List.map e92 b_truths)), .d (I b_lead.weight), .d (I b_lead.along), .d (I b_lead.high), .opq]))], 3, Fr.emp, [], 0⟩ (by kernel_rfl) ?_
      refine RunC.fin ⟨[(2, .d (.sl 1 (List.map e3 but))), (3, .ptr 0 0), (4, .ptr 1 0), (11, .d (.sl 3 (List.map e65 b_StandBook.Trials))), (12, .d (I (b_StandBook.Trials.length : Int))), (13, .d (I v)), (23, .undef), (24, .undef), (25, .undef), (26, .undef), (27, .undef), (28, .undef), (29, .undef), (30, .undef), (31, .undef), (32, .undef), (33, .undef), (34, .d (.bool false))], [(1, .var 92 [.d (I (w 0)), .d (I (w 1)), .d (I (w 2)), .d (I (w 3))]), (0, .var 83 (catV (cv25 b_StandBook) [.d (.sl 4 (List.map e92 b_truths)), .d (I b_lead.weight), .d (I b_lead.along), .d (I b_lead.high), .opq]))], 3, Fr.emp, [], 0⟩ (by kernel_rfl) (by kernel_rfl) ?_
      refine hQ_8 _ ?_
      refine AW.condF rfl ?_
      refine AW.skip ?_
      refine hK_6 _ ?_
      refine AW.ra fokW [] ⟨[(2, .d (.sl 1 (List.map e3 but))), (3, .ptr 0 0), (4, .ptr 1 0), (11, .d (.sl 3 (List.map e65 b_StandBook.Trials))), (12, .d (I (b_StandBook.Trials.length : Int))), (13, .d (I (wr (v + 1)))), (23, .undef), (24, .undef), (25, .undef), (26, .undef), (27, .undef), (28, .undef), (29, .undef), (30, .undef), (31, .undef), (32, .undef), (33, .undef)], [(1, .var 92 [.d (I (w 0)), .d (I (w 1)), .d (I (w 2)), .d (I (w 3))]), (0, .var 83 (catV (cv25 b_StandBook) [.d (.sl 4 (List.map e92 b_truths)), .d (I b_lead.weight), .d (I b_lead.along), .d (I b_lead.high), .opq]))], 3, Fr.emp, [], 0⟩ (by kernel_rfl) ?_
      obtain rfl := Option.some.inj h
      have ew : wr (v + 1) = v + 1 := inext (N := (b_StandBook.Trials.length : Int)) (by omega) (by omega) (by omega)
      rw [ew]
      exact hK_3 _ _ rfl (Can.kp (by kernel_rfl))
  · subst hout
    have h := Aft.nx hk_3
    refine AW.sa fokW [] ⟨[(2, .d (.sl 1 (List.map e3 but))), (3, .ptr 0 0), (4, .ptr 1 0), (11, .d (.sl 3 (List.map e65 b_StandBook.Trials))), (12, .d (I (b_StandBook.Trials.length : Int))), (13, .d (I v)), (14, .d (.bool (decide (v < (b_StandBook.Trials.length : Int)))))], [(1, .var 92 [.d (I (w 0)), .d (I (w 1)), .d (I (w 2)), .d (I (w 3))]), (0, .var 83 (catV (cv25 b_StandBook) [.d (.sl 4 (List.map e92 b_truths)), .d (I b_lead.weight), .d (I b_lead.along), .d (I b_lead.high), .opq]))], 2, Fr.emp, [], 0⟩ (by kernel_rfl) ?_
    refine AW.seqK (fun K_13 hK_13 => ?_)
    refine AW.cond rfl (fun hb_14 => False.elim (by have := of_decide_eq_true hb_14; omega)) (fun hb_14 => ?_)
    refine AW.exit ?_
    refine hK_1 _ ?_
    refine AW.sa fokW [] ⟨[(6, .d (.bool true))], [], 2, Fr.emp, [], 0⟩ (by kernel_rfl) ?_
    obtain rfl := Option.some.inj h
    exact AW.ret (hR_0 _ (retX (.cons (.tmp rfl) .nil) (.refl _) rfl (by kernel_rfl) (by kernel_rfl)))
def g61_r4 (x : StandBook) : ((Nat → Int)) → (List (Nat → Int)) → Option (Ctl (List (Nat → Int)) (Unit)) := fun a l => (g85 x l (Stand_load.mk 0 0 0) a ([] : (List Int))).bind fun r0_2 => bif r0_2 then ((appL 32 l [a]).bind fun l1 => some (.next l1)) else (some (.next l))
def g61 (x : StandBook) : Option (StandBook × (List (Nat → Int)) × Stand_load × (List (Stand_child × StandRatio))) := (g84 x ([] : (List (Nat → Int))) (Stand_load.mk 0 0 0)).bind fun (o0_StandBook, o0_truths, o0_lead) => (g98 (fun a s => rndC (g61_r4 x) a s) o0_StandBook o0_truths o0_lead (.next ([] : List (Nat → Int)))).bind fun out_4 => match out_4 with | .next l => some (x, l, (Stand_load.mk 0 0 0), []) | .brk _ => none
theorem k61 (x : StandBook) (r : StandBook × (List (Nat → Int)) × Stand_load × (List (Stand_child × StandRatio))) (h : g61 x = some r) : SCall Tryd.prog Gs 61 [.agg [.d (I x.Kind), .d (I x.Front), .d (I x.Back), .d (I x.Radius), .d (.sl 4 (List.map e70 x.Parts)), .d (I x.Along), .d (I x.High), .d (I x.Lean_), .d (I x.Limit), .d (.sl 3 (List.map e65 x.Trials))]] [] 0 Fr.emp (match r with | (r0_StandBook, r0_truths, r0_lead, m2) => .agg [.d (I r0_StandBook.Kind), .d (I r0_StandBook.Front), .d (I r0_StandBook.Back), .d (I r0_StandBook.Radius), .d (.sl 4 (List.map e70 r0_StandBook.Parts)), .d (I r0_StandBook.Along), .d (I r0_StandBook.High), .d (I r0_StandBook.Lean_), .d (I r0_StandBook.Limit), .d (.sl 3 (List.map e65 r0_StandBook.Trials)), .d (.sl 4 (List.map e92 r0_truths)), .d (I r0_lead.weight), .d (I r0_lead.along), .d (I r0_lead.high), .map 2]) (match r with | (r0_StandBook, r0_truths, r0_lead, m2) => [(2, .mp (List.map m94_34 m2))]) 3 Fr.emp := by
  unfold g61 at h
  refine SCall.mkK Tryd.func61 c61 rfl rfl (by kernel_rfl) (fun Q_0 hR_0 hN_0 => ?_)
  refine AW.sa fokW [] ⟨[(1, .ptr 0 0), (2, .ptr 1 0)], [(1, .var 83 [.d (I 0), .d (I 0), .d (I 0), .d (I 0), .d (.nilSl), .d (I 0), .d (I 0), .d (I 0), .d (I 0), .d (.nilSl), .d (.nilSl), .d (I 0), .d (I 0), .d (I 0), .d (.nilMap)]), (0, .var 25 (cv25 x))], 2, Fr.emp, [], 0⟩ (by kernel_rfl) ?_
  refine AW.sa fokW [] ⟨[(2, .ptr 1 0), (3, .ptr 3 0)], [(3, .var 83 (catV (cv25 x) [.d (.nilSl), .d (I 0), .d (I 0), .d (I 0), .map 2])), (2, .mp (List.map m94_34 [])), (1, .var 83 [.d (I 0), .d (I 0), .d (I 0), .d (I 0), .d (.nilSl), .d (I 0), .d (I 0), .d (I 0), .d (I 0), .d (.nilSl), .d (.nilSl), .d (I 0), .d (I 0), .d (I 0), .d (.nilMap)])], 4, Fr.emp, [], 0⟩ (by kernel_rfl) ?_
  refine AW.seqK (fun K_1 hK_1 => ?_)
  refine AW.srwK (fun Q_2 hQ_2 => ?_)
  refine RW.au fokW 1 [] ⟨[(2, .ptr 1 0), (3, .ptr 3 0), (8, .agg [.d (I x.Kind), .d (I x.Front), .d (I x.Back), .d (I x.Radius), .d (.sl 4 (List.map e70 x.Parts)), .d (I x.Along), .d (I x.High), .d (I x.Lean_), .d (I x.Limit), .d (.sl 3 (List.map e65 x.Trials)), .d (.nilSl), .d (I 0), .d (I 0), .d (I 0), .map 2])], [(3, .var 83 (catV (cv25 x) [.d (.nilSl), .d (I 0), .d (I 0), .d (I 0), .map 2])), (2, .mp (List.map m94_34 [])), (1, .var 83 [.d (I 0), .d (I 0), .d (I 0), .d (I 0), .d (.nilSl), .d (I 0), .d (I 0), .d (I 0), .d (I 0), .d (.nilSl), .d (.nilSl), .d (I 0), .d (I 0), .d (I 0), .d (.nilMap)])], 4, Fr.emp, [], 0⟩ (by kernel_rfl) ?_
  obtain ⟨⟨o0_StandBook, o0_truths, o0_lead⟩, hx_3, h⟩ := bsome h
  refine RW.one fokW (r_callS (zr := []) [] trivial rfl (k84 x ([] : (List (Nat → Int))) (Stand_load.mk 0 0 0) _ hx_3) trivial rfl rfl ⟨(Frz.agg_of ⟨.refl _, .refl _, .refl _, .refl _, .refl _, .refl _, .refl _, .refl _, .refl _, .refl _, (.nil 4), .refl _, .refl _, .refl _, (.opq rfl (by intro _ h; cases h)), trivial⟩), trivial⟩ rfl rfl rfl (r_end ?_))
  refine RW.nil ?_
  refine hQ_2 _ ?_
  refine AW.block ?_
  refine AW.can (Can.thawH 3 10 83 92 4 rfl rfl rfl) ?_
  obtain ⟨out_4, hx_4, h⟩ := bsome h
  refine AW.rfX (fun (l : List (Nat → Int)) => [(6, .dm), (3, .var 83 (catV (cv25 x) [.own 5 (List.map e92 l).length, .d (I 0), .d (I 0), .d (I 0), .map 2])), (5, .row 92 4 (List.map e92 l)), (2, .mp (List.map m94_34 [])), (1, .var 83 [.d (I 0), .d (I 0), .d (I 0), .d (I 0), .d (.nilSl), .d (I 0), .d (I 0), .d (I 0), .d (I 0), .d (.nilSl), .d (.nilSl), .d (I 0), .d (I 0), .d (I 0), .d (.nilMap)])]) (fun (_ : Unit) => []) (fun _ => some .ret) (g61_r4 x) (fun (a : (Nat → Int)) => [.agg [.d (I (a 0)), .d (I (a 1)), .d (I (a 2)), .d (I (a 3))]]) (s0 := ([] : List (Nat → Int))) (out := out_4) [(2, .ptr 1 0), (3, .ptr 3 0)] [(3, .var 83 (catV (cv25 x) [.own 5 (List.map e92 []).length, .d (I 0), .d (I 0), .d (I 0), .map 2])), (5, .row 92 4 (List.map e92 [])), (2, .mp (List.map m94_34 [])), (1, .var 83 [.d (I 0), .d (I 0), .d (I 0), .d (I 0), .d (.nilSl), .d (I 0), .d (I 0), .d (I 0), .d (I 0), .d (.nilSl), .d (.nilSl), .d (I 0), .d (I 0), .d (I 0), .d (.nilMap)])] [4] rfl (.clo _ _ _) (by kernel_rfl) (by kernel_rfl) (fun fr_ hY_4 => k98 fr_ _ (fun a s s2 b h => hY_4 a s s2 b h) o0_StandBook o0_truths o0_lead (.next ([] : List (Nat → Int))) _ hx_4) (by kernel_rfl) ⟨rfl, trivial⟩ rfl ⟨rfl, rfl⟩ rfl rfl (fun _ => rfl) (fun _ => rfl) (fun a_4 s_4 c_4 h l_4 => ?_) (fun _ => rfl) ?_
  · have ⟨a, e_4⟩ : ∃ x, x = a_4 := ⟨_, rfl⟩
    subst e_4
    have ⟨l, e_4⟩ : ∃ x, x = s_4 := ⟨_, rfl⟩
    subst e_4
    unfold g61_r4 at h
    refine AW.ra (fokR l_4) [] ⟨[(3, .ptr 3 0), (4, .ptr 7 0)], [(7, .var 92 [.d (I (a 0)), .d (I (a 1)), .d (I (a 2)), .d (I (a 3))]), (6, .dm), (3, .var 83 (catV (cv25 x) [.own 5 (List.map e92 l).length, .d (I 0), .d (I 0), .d (I 0), .map 2])), (5, .row 92 4 (List.map e92 l)), (2, .mp (List.map m94_34 [])), (1, .var 83 [.d (I 0), .d (I 0), .d (I 0), .d (I 0), .d (.nilSl), .d (I 0), .d (I 0), .d (I 0), .d (I 0), .d (.nilSl), .d (.nilSl), .d (I 0), .d (I 0), .d (I 0), .d (.nilMap)])], 8, Fr.emp, [], 7⟩ (by kernel_rfl) ?_
    refine AW.block ?_
    refine AW.srwK (fun Q_5 hQ_5 => ?_)
    refine RW.au (fokR l_4) 2 [] ⟨[(3, .ptr 3 0), (4, .ptr 7 0), (11, .agg [.d (I x.Kind), .d (I x.Front), .d (I x.Back), .d (I x.Radius), .d (.sl 4 (List.map e70 x.Parts)), .d (I x.Along), .d (I x.High), .d (I x.Lean_), .d (I x.Limit), .d (.sl 3 (List.map e65 x.Trials)), .own 5 (List.map e92 l).length, .d (I 0), .d (I 0), .d (I 0), .map 2]), (12, .agg [.d (I (a 0)), .d (I (a 1)), .d (I (a 2)), .d (I (a 3))])], [(7, .var 92 [.d (I (a 0)), .d (I (a 1)), .d (I (a 2)), .d (I (a 3))]), (6, .dm), (3, .var 83 (catV (cv25 x) [.own 5 (List.map e92 l).length, .d (I 0), .d (I 0), .d (I 0), .map 2])), (5, .row 92 4 (List.map e92 l)), (2, .mp (List.map m94_34 [])), (1, .var 83 [.d (I 0), .d (I 0), .d (I 0), .d (I 0), .d (.nilSl), .d (I 0), .d (I 0), .d (I 0), .d (I 0), .d (.nilSl), .d (.nilSl), .d (I 0), .d (I 0), .d (I 0), .d (.nilMap)])], 8, Fr.emp, [], 7⟩ (by kernel_rfl) ?_
    obtain ⟨r0_2, hx_6, h⟩ := bsome h
    refine RW.one (fokR l_4) (r_callF (rs := [(5, .row 92 4 (List.map e92 l))]) trivial rfl (k85 x l (Stand_load.mk 0 0 0) a ([] : (List Int)) _ hx_6) ⟨rfl, trivial⟩ ⟨(Frz.agg_of ⟨.refl _, .refl _, .refl _, .refl _, .refl _, .refl _, .refl _, .refl _, .refl _, .refl _, (.own rfl rfl), .refl _, .refl _, .refl _, (.opq rfl (by intro _ h; cases h)), trivial⟩), .refl _, (.nil 1), trivial⟩ rfl rfl rfl (r_end ?_))
    refine RW.nil ?_
    refine hQ_5 _ ?_
    refine AW.cond rfl (fun hb_7 => ?_) (fun hb_7 => ?_)
    · have h := ifT hb_7 h
      refine AW.rw ?_
      refine RW.au (fokR l_4) 4 [] ⟨[(3, .ptr 3 0), (15, .own 5 (List.map e92 l).length), (17, .own 8 (List.map e92 [a]).length)], [(8, .row 92 4 (List.map e92 [a])), (6, .dm), (3, .var 83 (catV (cv25 x) [.own 5 (List.map e92 l).length, .d (I 0), .d (I 0), .d (I 0), .map 2])), (5, .row 92 4 (List.map e92 l)), (2, .mp (List.map m94_34 [])), (1, .var 83 [.d (I 0), .d (I 0), .d (I 0), .d (I 0), .d (.nilSl), .d (I 0), .d (I 0), .d (I 0), .d (I 0), .d (.nilSl), .d (.nilSl), .d (I 0), .d (I 0), .d (I 0), .d (.nilMap)])], 9, Fr.emp, [], 7⟩ (by kernel_rfl) ?_
      obtain ⟨l1, hv_9, h⟩ := bsome h
      refine RW.one (fokR l_4) (r_apO trivial rfl rfl rfl rfl rfl rfl (apz hv_9 e92) (apr hv_9 e92) (r_end ?_))
      refine RW.au (fokR l_4) 2 [] ⟨[], [(3, .var 83 (catV (cv25 x) [.own 5 (List.map e92 l1).length, .d (I 0), .d (I 0), .d (I 0), .map 2])), (5, .row 92 4 (List.map e92 l1)), (6, .dm), (2, .mp (List.map m94_34 [])), (1, .var 83 [.d (I 0), .d (I 0), .d (I 0), .d (I 0), .d (.nilSl), .d (I 0), .d (I 0), .d (I 0), .d (I 0), .d (.nilSl), .d (.nilSl), .d (I 0), .d (I 0), .d (I 0), .d (.nilMap)])], 9, Fr.emp, [], 7⟩ (by kernel_rfl) ?_
      refine RW.nil ?_
      obtain rfl := Option.some.inj h
      exact ⟨⟨[], [(6, .dm), (3, .var 83 (catV (cv25 x) [.own 5 (List.map e92 l1).length, .d (I 0), .d (I 0), .d (I 0), .map 2])), (5, .row 92 4 (List.map e92 l1)), (2, .mp (List.map m94_34 [])), (1, .var 83 [.d (I 0), .d (I 0), .d (I 0), .d (I 0), .d (.nilSl), .d (I 0), .d (I 0), .d (I 0), .d (I 0), .d (.nilSl), .d (.nilSl), .d (I 0), .d (I 0), .d (I 0), .d (.nilMap)])], 7, Fr.emp, [], 7⟩, Can.kp (by kernel_rfl), rdX trivial rfl (by kernel_rfl) (by kernel_rfl)⟩
    · have h := ifF hb_7 h
      refine AW.skip ?_
      obtain rfl := Option.some.inj h
      exact ⟨⟨[], [(6, .dm), (3, .var 83 (catV (cv25 x) [.own 5 (List.map e92 l).length, .d (I 0), .d (I 0), .d (I 0), .map 2])), (5, .row 92 4 (List.map e92 l)), (2, .mp (List.map m94_34 [])), (1, .var 83 [.d (I 0), .d (I 0), .d (I 0), .d (I 0), .d (.nilSl), .d (I 0), .d (I 0), .d (I 0), .d (I 0), .d (.nilSl), .d (.nilSl), .d (I 0), .d (I 0), .d (I 0), .d (.nilMap)])], 7, Fr.emp, [], 7⟩, Can.kp (by kernel_rfl), rdX trivial rfl (by kernel_rfl) (by kernel_rfl)⟩
  · rcases out_4 with l | _
    · refine hK_1 _ ?_
      refine AW.sa fokW [] ⟨[(2, .ptr 1 0)], [(1, .var 83 (catV (cv25 x) [.own 5 (List.map e92 l).length, .d (I 0), .d (I 0), .d (I 0), .map 2])), (6, .dm), (5, .row 92 4 (List.map e92 l)), (2, .mp (List.map m94_34 []))], 7, Fr.emp, [6], 0⟩ (by kernel_rfl) ?_
      obtain rfl := Option.some.inj h
      exact AW.ret (hR_0 _ (retX (.cons (.agg rfl rfl (Nat.le_of_ble_eq_true rfl)) .nil) (Frz.agg_of ⟨.refl _, .refl _, .refl _, .refl _, .refl _, .refl _, .refl _, .refl _, .refl _, .refl _, (.own rfl rfl), .refl _, .refl _, .refl _, .refl _, trivial⟩) rfl (by kernel_rfl) (by kernel_rfl)))
    · cases h
def g16 (x : StandBook) : Option (Bool × Int) := (g18 x).bind fun A1 => bif (decide (A1 ≠ 0)) then (some (false, A1)) else ((g61 x).bind fun (r0_StandBook, r0_truths, r0_lead, m2) => some ((decide (0 < (r0_truths.length : Int))), 0))
theorem k16 (x : StandBook) (r : Bool × Int) (h : g16 x = some r) : SCall Tryd.prog Gs 16 [.agg [.d (I x.Kind), .d (I x.Front), .d (I x.Back), .d (I x.Radius), .d (.sl 4 (List.map e70 x.Parts)), .d (I x.Along), .d (I x.High), .d (I x.Lean_), .d (I x.Limit), .d (.sl 3 (List.map e65 x.Trials))]] [] 0 Fr.emp (match r with | (r0_1, r1_1) => .tup [.d (.bool r0_1), .d (I r1_1)]) [] 0 Fr.emp := by
  unfold g16 at h
  refine SCall.mkK Tryd.func16 c16 rfl rfl (by kernel_rfl) (fun Q_0 hR_0 hN_0 => ?_)
  refine AW.sa fokW [] ⟨[(1, .ptr 0 0)], [(0, .var 25 (cv25 x))], 1, Fr.emp, [], 0⟩ (by kernel_rfl) ?_
  refine AW.seqK (fun K_1 hK_1 => ?_)
  refine AW.srwK (fun Q_2 hQ_2 => ?_)
  refine RW.au fokW 1 [] ⟨[(1, .ptr 0 0), (5, .agg [.d (I x.Kind), .d (I x.Front), .d (I x.Back), .d (I x.Radius), .d (.sl 4 (List.map e70 x.Parts)), .d (I x.Along), .d (I x.High), .d (I x.Lean_), .d (I x.Limit), .d (.sl 3 (List.map e65 x.Trials))])], [(0, .var 25 (cv25 x))], 1, Fr.emp, [], 0⟩ (by kernel_rfl) ?_
  obtain ⟨A1, hx_3, h⟩ := bsome h
  refine RW.one fokW (r_call trivial rfl (k18 x _ hx_3) rfl rfl (r_end ?_))
  refine RW.au fokW 1 [] ⟨[(1, .ptr 0 0), (4, .d (I A1))], [(0, .var 25 (cv25 x))], 1, Fr.emp, [], 0⟩ (by kernel_rfl) ?_
  refine RW.nil ?_
  refine hQ_2 _ ?_
  refine AW.sa fokW [] ⟨[(1, .ptr 0 0), (4, .d (I A1)), (8, .d (.bool (decide (A1 ≠ 0))))], [(0, .var 25 (cv25 x))], 1, Fr.emp, [], 0⟩ (by kernel_rfl) ?_
  refine AW.cond rfl (fun hb_4 => ?_) (fun hb_4 => ?_)
  · have h := ifT hb_4 h
    refine AW.sa fokW [] ⟨[(2, .d (.bool false)), (3, .d (I A1))], [], 1, Fr.emp, [], 0⟩ (by kernel_rfl) ?_
    obtain rfl := Option.some.inj h
    exact AW.ret (hR_0 _ (retX (.cons (.tmp rfl) (.cons (.tmp rfl) .nil)) (.refl _) rfl (by kernel_rfl) (by kernel_rfl)))
  · have h := ifF hb_4 h
    refine AW.skip ?_
    refine hK_1 _ ?_
    refine AW.srwK (fun Q_5 hQ_5 => ?_)
    refine RW.au fokW 1 [] ⟨[(10, .agg [.d (I x.Kind), .d (I x.Front), .d (I x.Back), .d (I x.Radius), .d (.sl 4 (List.map e70 x.Parts)), .d (I x.Along), .d (I x.High), .d (I x.Lean_), .d (I x.Limit), .d (.sl 3 (List.map e65 x.Trials))])], [], 1, Fr.emp, [], 0⟩ (by kernel_rfl) ?_
    obtain ⟨⟨r0_StandBook, r0_truths, r0_lead, m2⟩, hx_6, h⟩ := bsome h
    refine RW.one fokW (r_callS (zr := []) [] trivial rfl (k61 x _ hx_6) trivial rfl rfl ⟨.refl _, trivial⟩ rfl rfl rfl (r_end ?_))
    refine RW.au fokW 1 [] ⟨[(12, .d (.sl 4 (List.map e92 r0_truths)))], [], 4, Fr.emp, [], 0⟩ (by kernel_rfl) ?_
    refine RW.one fokW (r_lenX trivial rfl lenm (r_end ?_))
    refine RW.au fokW 3 [] ⟨[(2, .d (.bool (decide (0 < (r0_truths.length : Int))))), (3, .d (I 0))], [], 4, Fr.emp, [], 0⟩ (by kernel_rfl) ?_
    refine RW.nil ?_
    refine hQ_5 _ ?_
    obtain rfl := Option.some.inj h
    exact AW.ret (hR_0 _ (retX (.cons (.tmp rfl) (.cons (.tmp rfl) .nil)) (.refl _) rfl (by kernel_rfl) (by kernel_rfl)))
def g43 (n : Int) (first : Int) (last : Int) : Option Bool := some ((decide (first ≤ n)) && (decide (n ≤ last)))
theorem k43 (n : Int) (first : Int) (last : Int) (r : Bool) (h : g43 n first last = some r) : SCall Tryd.prog Gs 43 [.d (I n), .d (I first), .d (I last)] [] 0 Fr.emp (.d (.bool r)) [] 0 Fr.emp := by
  unfold g43 at h
  refine SCall.mkK Tryd.func43 c43 rfl rfl (by kernel_rfl) (fun Q_0 hR_0 hN_0 => ?_)
  refine AW.sa fokW [] ⟨[(0, .d (I n)), (1, .d (I first)), (2, .d (I last))], [], 0, Fr.emp, [], 0⟩ (by kernel_rfl) ?_
  refine AW.sa fokW [10] ⟨[(6, .d (.bool ((decide (first ≤ n)) && (decide (n ≤ last)))))], [], 0, Fr.emp, [], 0⟩ (by kernel_rfl) ?_
  obtain rfl := Option.some.inj h
  exact AW.ret (hR_0 _ (retX (.cons (.tmp rfl) .nil) (.refl _) rfl (by kernel_rfl) (by kernel_rfl)))
def g87 (s : Span) (first : Int) (last : Int) : Option Bool := some (((decide (first ≤ s.Low)) && (decide (s.Low ≤ s.High))) && (decide (s.High ≤ last)))
theorem k87 (s : Span) (first : Int) (last : Int) (r : Bool) (h : g87 s first last = some r) : SCall Tryd.prog Gs 87 [.agg [.d (I s.Low), .d (I s.High)], .d (I first), .d (I last)] [] 0 Fr.emp (.d (.bool r)) [] 0 Fr.emp := by
  unfold g87 at h
  refine SCall.mkK Tryd.func87 c87 rfl rfl (by kernel_rfl) (fun Q_0 hR_0 hN_0 => ?_)
  refine AW.sa fokW [] ⟨[(1, .d (I first)), (2, .d (I last)), (3, .ptr 0 0)], [(0, .var 42 [.d (I s.Low), .d (I s.High)])], 1, Fr.emp, [], 0⟩ (by kernel_rfl) ?_
  refine AW.sa fokW [11, 18] ⟨[(6, .d (.bool (((decide (first ≤ s.Low)) && (decide (s.Low ≤ s.High))) && (decide (s.High ≤ last)))))], [], 1, Fr.emp, [], 0⟩ (by kernel_rfl) ?_
  obtain rfl := Option.some.inj h
  exact AW.ret (hR_0 _ (retX (.cons (.tmp rfl) .nil) (.refl _) rfl (by kernel_rfl) (by kernel_rfl)))
def g64 (x : StandPart) : Option Bool := (g87 x.Weight 1 99).bind fun r0 => (bif (r0 && (decide ((wr (x.Weight.High - x.Weight.Low)) ≤ 4))) then ((g43 x.Along (-60) 60).bind fun r0_1 => some r0_1) else (some false)).bind fun v => (bif v then ((g43 x.High 0 60).bind fun r0_2 => some r0_2) else (some false)).bind fun v1 => some v1
theorem k64 (x : StandPart) (r : Bool) (h : g64 x = some r) : SCall Tryd.prog Gs 64 [.agg [.d (I x.Weight.Low), .d (I x.Weight.High), .d (I x.Along), .d (I x.High)]] [] 0 Fr.emp (.d (.bool r)) [] 0 Fr.emp := by
  unfold g64 at h
  refine SCall.mkK Tryd.func64 c64 rfl rfl (by kernel_rfl) (fun Q_0 hR_0 hN_0 => ?_)
  refine AW.sa fokW [] ⟨[(1, .ptr 0 0)], [(0, .var 70 (cv70 x))], 1, Fr.emp, [], 0⟩ (by kernel_rfl) ?_
  refine AW.srwK (fun Q_1 hQ_1 => ?_)
  refine RW.au fokW 2 [] ⟨[(1, .ptr 0 0), (4, .agg [.d (I x.Weight.Low), .d (I x.Weight.High)])], [(0, .var 70 (cv70 x))], 1, Fr.emp, [], 0⟩ (by kernel_rfl) ?_
  obtain ⟨r0, hx_2, h⟩ := bsome h
  refine RW.one fokW (r_call trivial rfl (k87 x.Weight 1 99 _ hx_2) rfl rfl (r_end ?_))
  refine RW.au fokW 11 [6] ⟨[(1, .ptr 0 0), (16, .d (.bool (r0 && (decide ((wr (x.Weight.High - x.Weight.Low)) ≤ 4)))))], [(0, .var 70 (cv70 x))], 1, Fr.emp, [], 0⟩ (by kernel_rfl) ?_
  obtain ⟨v, hx_3, h⟩ := bsome h
  refine RW.cut fokW 4 (⟨[(1, .ptr 0 0), (20, .d (.bool v))], [(0, .var 70 (cv70 x))], 1, Fr.emp, [], 0⟩) ?_ ?_
  · refine r_split 16 rfl (fun hb_5 => ?_) (fun hb_5 => ?_)
    · have h := ifT hb_5 hx_3
      refine RunC.auX 2 ⟨[(1, .ptr 0 0), (16, .d (.bool true)), (18, .d (I x.Along))], [(0, .var 70 (cv70 x))], 1, Fr.emp, [], 0⟩ (by kernel_rfl) ?_
      obtain ⟨r0_1, hx_4, h⟩ := bsome h
      refine r_call rfl rfl (k43 x.Along (-60) 60 _ hx_4) rfl rfl ?_
      refine RunC.auX 1 ⟨[(1, .ptr 0 0), (20, .d (.bool r0_1))], [(0, .var 70 (cv70 x))], 1, Fr.emp, [], 0⟩ (by kernel_rfl) ?_
      obtain rfl := Option.some.inj h
      refine RunC.finJ (Can.kp (by kernel_rfl))
    · have h := ifF hb_5 hx_3
      refine RunC.auX 4 ⟨[(1, .ptr 0 0), (20, .d (.bool false))], [(0, .var 70 (cv70 x))], 1, Fr.emp, [], 0⟩ (by kernel_rfl) ?_
      obtain rfl := Option.some.inj h
      refine RunC.finJ (Can.kp (by kernel_rfl))
  · refine RW.au fokW 1 [] ⟨[(1, .ptr 0 0), (21, .d (.bool v))], [(0, .var 70 (cv70 x))], 1, Fr.emp, [], 0⟩ (by kernel_rfl) ?_
    obtain ⟨v1, hx_6, h⟩ := bsome h
    refine RW.cut fokW 4 (⟨[(25, .d (.bool v1))], [], 0, Fr.emp, [], 0⟩) ?_ ?_
    · refine r_split 21 rfl (fun hb_8 => ?_) (fun hb_8 => ?_)
      · have h := ifT hb_8 hx_6
        refine RunC.auX 2 ⟨[(21, .d (.bool true)), (23, .d (I x.High))], [(0, .var 70 (cv70 x))], 1, Fr.emp, [], 0⟩ (by kernel_rfl) ?_
        obtain ⟨r0_2, hx_7, h⟩ := bsome h
        refine r_call rfl rfl (k43 x.High 0 60 _ hx_7) rfl rfl ?_
        refine RunC.auX 1 ⟨[(25, .d (.bool r0_2))], [(0, .var 70 (cv70 x))], 1, Fr.emp, [], 0⟩ (by kernel_rfl) ?_
        obtain rfl := Option.some.inj h
        refine RunC.finJ (Can.kp (by kernel_rfl))
      · have h := ifF hb_8 hx_6
        refine RunC.auX 4 ⟨[(25, .d (.bool false))], [(0, .var 70 (cv70 x))], 1, Fr.emp, [], 0⟩ (by kernel_rfl) ?_
        obtain rfl := Option.some.inj h
        refine RunC.finJ (Can.kp (by kernel_rfl))
    · refine RW.au fokW 1 [] ⟨[(2, .d (.bool v1))], [], 0, Fr.emp, [], 0⟩ (by kernel_rfl) ?_
      refine RW.nil ?_
      refine hQ_1 _ ?_
      obtain rfl := Option.some.inj h
      exact AW.ret (hR_0 _ (retX (.cons (.tmp rfl) .nil) (.refl _) rfl (by kernel_rfl) (by kernel_rfl)))
def g65 (b : StandBook) (n : Int) : Option Bool := (g43 n 1 b.Limit).bind fun r0 => some r0
theorem k65 (b : StandBook) (n : Int) (r : Bool) (h : g65 b n = some r) : SCall Tryd.prog Gs 65 [.agg [.d (I b.Kind), .d (I b.Front), .d (I b.Back), .d (I b.Radius), .d (.sl 4 (List.map e70 b.Parts)), .d (I b.Along), .d (I b.High), .d (I b.Lean_), .d (I b.Limit), .d (.sl 3 (List.map e65 b.Trials))], .d (I n)] [] 0 Fr.emp (.d (.bool r)) [] 0 Fr.emp := by
  unfold g65 at h
  refine SCall.mkK Tryd.func65 c65 rfl rfl (by kernel_rfl) (fun Q_0 hR_0 hN_0 => ?_)
  refine AW.sa fokW [] ⟨[(1, .d (I n)), (2, .ptr 0 0)], [(0, .var 25 (cv25 b))], 1, Fr.emp, [], 0⟩ (by kernel_rfl) ?_
  refine AW.srwK (fun Q_1 hQ_1 => ?_)
  refine RW.au fokW 3 [] ⟨[(5, .d (I n)), (7, .d (I b.Limit))], [], 1, Fr.emp, [], 0⟩ (by kernel_rfl) ?_
  obtain ⟨r0, hx_2, h⟩ := bsome h
  refine RW.one fokW (r_call trivial rfl (k43 n 1 b.Limit _ hx_2) rfl rfl (r_end ?_))
  refine RW.au fokW 1 [] ⟨[(4, .d (.bool r0))], [], 1, Fr.emp, [], 0⟩ (by kernel_rfl) ?_
  refine RW.nil ?_
  refine hQ_1 _ ?_
  obtain rfl := Option.some.inj h
  exact AW.ret (hR_0 _ (retX (.cons (.tmp rfl) .nil) (.refl _) rfl (by kernel_rfl) (by kernel_rfl)))
end Go.Proofs.Tz
