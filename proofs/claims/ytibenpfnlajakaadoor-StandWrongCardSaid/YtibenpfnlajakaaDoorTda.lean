/- Told functions, and that the program does so, part 1. Conditions: none. -/
import Derived.Test.YtibenpfnlajakaaDoorDa
set_option linter.unusedVariables false
set_option linter.unusedSimpArgs false
namespace Go.Proofs.Tz
open Go Go.Abs Go.Proofs
def g63 (n : Int) (low : Int) (high : Int) : Option Bool := some ((decide (low ≤ n)) && (decide (n ≤ high)))
theorem k63 (n : Int) (low : Int) (high : Int) (r : Bool) (h : g63 n low high = some r) : SCall Tryd.prog Gs 63 [.d (I n), .d (I low), .d (I high)] [] 0 Fr.emp (.d (.bool r)) [] 0 Fr.emp := by
 unfold g63 at h
 refine SCall.mkK Tryd.func63 c63 rfl rfl (by kernel_rfl) (fun Q_0 hR_0 hN_0 => ?_)
 refine AW.sa fokW [] ⟨[(0, .d (I n)), (1, .d (I low)), (2, .d (I high))], [], 0, Fr.emp, [], 0⟩ (by kernel_rfl) ?_
 refine AW.sa fokW [10] ⟨[(6, .d (.bool ((decide (low ≤ n)) && (decide (n ≤ high)))))], [], 0, Fr.emp, [], 0⟩ (by kernel_rfl) ?_
 obtain rfl := Option.some.inj h
 exact AW.ret (hR_0 _ (retX (.cons (.tmp rfl) .nil) (.refl _) rfl (by kernel_rfl) (by kernel_rfl)))
def g18_56 (t : StandBook) : Int → StandTrial → Bool → Option Bool := fun v13 p1 r_2 => (bif r_2 then ((g63 p1.Weight 1 t.Limit).bind fun r0_12 => some r0_12) else (some false)).bind fun v14 => (bif v14 then ((g63 p1.Lean_ (wr (-t.Lean_)) t.Lean_).bind fun r0_13 => some r0_13) else (some false)).bind fun v15 => some v15
def g18_36 : Int → StandPart → Bool → Option Bool := fun v9 p r_1 => (bif r_1 then ((g63 p.Weight.Low 1 p.Weight.High).bind fun r0_9 => some r0_9) else (some false)).bind fun v10 => (bif ((v10 && (decide (p.Weight.High ≤ 99))) && (decide ((wr (p.Weight.High - p.Weight.Low)) ≤ 4))) then ((g63 p.Along (-60) 60).bind fun r0_10 => some r0_10) else (some false)).bind fun v11 => (bif v11 then ((g63 p.High 0 60).bind fun r0_11 => some r0_11) else (some false)).bind fun v12 => some v12
def g18 (t : StandBook) : Option Int := (g63 t.Kind 0 1).bind fun r0 => (bif r0 then ((g63 t.Front 1 60).bind fun r0_1 => some r0_1) else (some false)).bind fun v => (bif v then ((g63 t.Back 1 60).bind fun r0_2 => some r0_2) else (some false)).bind fun v1 => (bif (decide (t.Kind = 1)) then ((bif v1 then ((g63 t.Radius 1 120).bind fun r0_3 => some r0_3) else (some false)).bind fun v2 => some v2) else (some (v1 && (decide (t.Radius = 0))))).bind fun r_ => (bif r_ then ((g63 (t.Parts.length : Int) 1 4).bind fun r0_4 => some r0_4) else (some false)).bind fun v3 => (bif v3 then ((g63 t.Along (-60) 60).bind fun r0_5 => some r0_5) else (some false)).bind fun v4 => (bif v4 then ((g63 t.High 0 60).bind fun r0_6 => some r0_6) else (some false)).bind fun v5 => (bif v5 then ((g63 t.Lean_ 0 12).bind fun r0_7 => some r0_7) else (some false)).bind fun v6 => (bif v6 then ((g63 t.Limit 1 60).bind fun r0_8 => some r0_8) else (some false)).bind fun v7 => (bif v7 then (some (decide ((t.Trials.length : Int) ≤ 5))) else (some false)).bind fun v8 => (eachS g18_36 t.Parts 0 v8).bind fun r_1 => (eachS (g18_56 t) t.Trials 0 r_1).bind fun r_2 => bif (!r_2) then (some 20) else (some 0)
theorem k18 (t : StandBook) (r : Int) (h : g18 t = some r) : SCall Tryd.prog Gs 18 [.agg (cv25 t)] [] 0 Fr.emp (.d (I r)) [] 0 Fr.emp := by
 unfold g18 at h
 refine SCall.mkK Tryd.func18 c18 rfl rfl (by kernel_rfl) (fun Q_0 hR_0 hN_0 => ?_)
 refine AW.sa fokW [] ⟨[(1, .ptr 0 0)], [(0, .var 25 (cv25 t))], 1, Fr.emp, [], 0⟩ (by kernel_rfl) ?_
 refine AW.srwK (fun Q_1 hQ_1 => ?_)
 refine RW.au fokW 2 [] ⟨[(1, .ptr 0 0), (10, .d (I t.Kind))], [(0, .var 25 (cv25 t))], 1, Fr.emp, [], 0⟩ (by kernel_rfl) ?_
 obtain ⟨r0, hx_2, h⟩ := bsome h
 refine RW.one fokW (r_call trivial rfl (k63 t.Kind 0 1 _ hx_2) rfl rfl (r_end ?_))
 refine RW.au fokW 1 [] ⟨[(1, .ptr 0 0), (12, .d (.bool r0))], [(0, .var 25 (cv25 t))], 1, Fr.emp, [], 0⟩ (by kernel_rfl) ?_
 obtain ⟨v, hx_3, h⟩ := bsome h
 refine RW.cut fokW 4 (⟨[(1, .ptr 0 0), (16, .d (.bool v))], [(0, .var 25 (cv25 t))], 1, Fr.emp, [], 0⟩) ?_ ?_
 ·refine r_split 12 rfl (fun hb_5 => ?_) (fun hb_5 => ?_)
  ·have h := ifT hb_5 hx_3
   refine RunC.auX 2 ⟨[(1, .ptr 0 0), (12, .d (.bool true)), (14, .d (I t.Front))], [(0, .var 25 (cv25 t))], 1, Fr.emp, [], 0⟩ (by kernel_rfl) ?_
   obtain ⟨r0_1, hx_4, h⟩ := bsome h
   refine r_call rfl rfl (k63 t.Front 1 60 _ hx_4) rfl rfl ?_
   refine RunC.auX 1 ⟨[(1, .ptr 0 0), (16, .d (.bool r0_1))], [(0, .var 25 (cv25 t))], 1, Fr.emp, [], 0⟩ (by kernel_rfl) ?_
   obtain rfl := Option.some.inj h
   refine RunC.finJ (Can.kp (by kernel_rfl))
  ·have h := ifF hb_5 hx_3
   refine RunC.auX 4 ⟨[(1, .ptr 0 0), (16, .d (.bool false))], [(0, .var 25 (cv25 t))], 1, Fr.emp, [], 0⟩ (by kernel_rfl) ?_
   obtain rfl := Option.some.inj h
   refine RunC.finJ (Can.kp (by kernel_rfl))
 ·refine RW.au fokW 1 [] ⟨[(1, .ptr 0 0), (17, .d (.bool v))], [(0, .var 25 (cv25 t))], 1, Fr.emp, [], 0⟩ (by kernel_rfl) ?_
  obtain ⟨v1, hx_6, h⟩ := bsome h
  refine RW.cut fokW 4 (⟨[(1, .ptr 0 0), (21, .d (.bool v1))], [(0, .var 25 (cv25 t))], 1, Fr.emp, [], 0⟩) ?_ ?_
  ·refine r_split 17 rfl (fun hb_8 => ?_) (fun hb_8 => ?_)
   ·have h := ifT hb_8 hx_6
    refine RunC.auX 2 ⟨[(1, .ptr 0 0), (17, .d (.bool true)), (19, .d (I t.Back))], [(0, .var 25 (cv25 t))], 1, Fr.emp, [], 0⟩ (by kernel_rfl) ?_
    obtain ⟨r0_2, hx_7, h⟩ := bsome h
    refine r_call rfl rfl (k63 t.Back 1 60 _ hx_7) rfl rfl ?_
    refine RunC.auX 1 ⟨[(1, .ptr 0 0), (21, .d (.bool r0_2))], [(0, .var 25 (cv25 t))], 1, Fr.emp, [], 0⟩ (by kernel_rfl) ?_
    obtain rfl := Option.some.inj h
    refine RunC.finJ (Can.kp (by kernel_rfl))
   ·have h := ifF hb_8 hx_6
    refine RunC.auX 4 ⟨[(1, .ptr 0 0), (21, .d (.bool false))], [(0, .var 25 (cv25 t))], 1, Fr.emp, [], 0⟩ (by kernel_rfl) ?_
    obtain rfl := Option.some.inj h
    refine RunC.finJ (Can.kp (by kernel_rfl))
  ·refine RW.au fokW 1 [] ⟨[(1, .ptr 0 0), (3, .d (.bool v1))], [(0, .var 25 (cv25 t))], 1, Fr.emp, [], 0⟩ (by kernel_rfl) ?_
   refine RW.nil ?_
   refine hQ_1 _ ?_
   obtain ⟨r_, hx_9, h⟩ := bsome h
   refine AW.jnSK (fun (r_ : Bool) => ⟨[(1, .ptr 0 0), (3, .d (.bool r_))], [(0, .var 25 (cv25 t))], 1, Fr.emp, [], 0⟩) (c := r_) (fun K_9 hK_9 => ?_) ?_
   ·have h := hx_9
    refine AW.sa fokW [] ⟨[(1, .ptr 0 0), (3, .d (.bool v1)), (24, .d (.bool (decide (t.Kind = 1))))], [(0, .var 25 (cv25 t))], 1, Fr.emp, [], 0⟩ (by kernel_rfl) ?_
    refine AW.cond rfl (fun hb_10 => ?_) (fun hb_10 => ?_)
    ·have h := ifT hb_10 h
     refine AW.rw ?_
     refine RW.au fokW 2 [] ⟨[(1, .ptr 0 0), (26, .d (.bool v1))], [(0, .var 25 (cv25 t))], 1, Fr.emp, [], 0⟩ (by kernel_rfl) ?_
     obtain ⟨v2, hx_12, h⟩ := bsome h
     refine RW.cut fokW 4 (⟨[(1, .ptr 0 0), (30, .d (.bool v2))], [(0, .var 25 (cv25 t))], 1, Fr.emp, [], 0⟩) ?_ ?_
     ·refine r_split 26 rfl (fun hb_14 => ?_) (fun hb_14 => ?_)
      ·have h := ifT hb_14 hx_12
       refine RunC.auX 2 ⟨[(1, .ptr 0 0), (26, .d (.bool true)), (28, .d (I t.Radius))], [(0, .var 25 (cv25 t))], 1, Fr.emp, [], 0⟩ (by kernel_rfl) ?_
       obtain ⟨r0_3, hx_13, h⟩ := bsome h
       refine r_call rfl rfl (k63 t.Radius 1 120 _ hx_13) rfl rfl ?_
       refine RunC.auX 1 ⟨[(1, .ptr 0 0), (30, .d (.bool r0_3))], [(0, .var 25 (cv25 t))], 1, Fr.emp, [], 0⟩ (by kernel_rfl) ?_
       obtain rfl := Option.some.inj h
       refine RunC.finJ (Can.kp (by kernel_rfl))
      ·have h := ifF hb_14 hx_12
       refine RunC.auX 4 ⟨[(1, .ptr 0 0), (30, .d (.bool false))], [(0, .var 25 (cv25 t))], 1, Fr.emp, [], 0⟩ (by kernel_rfl) ?_
       obtain rfl := Option.some.inj h
       refine RunC.finJ (Can.kp (by kernel_rfl))
     ·refine RW.au fokW 1 [] ⟨[(1, .ptr 0 0), (3, .d (.bool v2))], [(0, .var 25 (cv25 t))], 1, Fr.emp, [], 0⟩ (by kernel_rfl) ?_
      refine RW.nil ?_
      obtain rfl := Option.some.inj h
      exact hK_9 _ (Can.kp (by kernel_rfl))
    ·have h := ifF hb_10 h
     refine AW.ra fokW [32] ⟨[(1, .ptr 0 0), (3, .d (.bool (v1 && (decide (t.Radius = 0)))))], [(0, .var 25 (cv25 t))], 1, Fr.emp, [], 0⟩ (by kernel_rfl) ?_
     obtain rfl := Option.some.inj h
     exact hK_9 _ (Can.kp (by kernel_rfl))
   ·refine AW.srwK (fun Q_15 hQ_15 => ?_)
    refine RW.au fokW 2 [] ⟨[(1, .ptr 0 0), (38, .d (.bool r_))], [(0, .var 25 (cv25 t))], 1, Fr.emp, [], 0⟩ (by kernel_rfl) ?_
    obtain ⟨v3, hx_16, h⟩ := bsome h
    refine RW.cut fokW 5 (⟨[(1, .ptr 0 0), (43, .d (.bool v3))], [(0, .var 25 (cv25 t))], 1, Fr.emp, [], 0⟩) ?_ ?_
    ·refine r_split 38 rfl (fun hb_18 => ?_) (fun hb_18 => ?_)
     ·have h := ifT hb_18 hx_16
      refine RunC.auX 2 ⟨[(1, .ptr 0 0), (38, .d (.bool true)), (40, .d (.sl 4 (List.map e70 t.Parts)))], [(0, .var 25 (cv25 t))], 1, Fr.emp, [], 0⟩ (by kernel_rfl) ?_
      refine r_lenX rfl rfl lenm ?_
      obtain ⟨r0_4, hx_17, h⟩ := bsome h
      refine r_call rfl rfl (k63 (t.Parts.length : Int) 1 4 _ hx_17) rfl rfl ?_
      refine RunC.auX 1 ⟨[(1, .ptr 0 0), (43, .d (.bool r0_4))], [(0, .var 25 (cv25 t))], 1, Fr.emp, [], 0⟩ (by kernel_rfl) ?_
      obtain rfl := Option.some.inj h
      refine RunC.finJ (Can.kp (by kernel_rfl))
     ·have h := ifF hb_18 hx_16
      refine RunC.auX 5 ⟨[(1, .ptr 0 0), (43, .d (.bool false))], [(0, .var 25 (cv25 t))], 1, Fr.emp, [], 0⟩ (by kernel_rfl) ?_
      obtain rfl := Option.some.inj h
      refine RunC.finJ (Can.kp (by kernel_rfl))
    ·refine RW.au fokW 1 [] ⟨[(1, .ptr 0 0), (44, .d (.bool v3))], [(0, .var 25 (cv25 t))], 1, Fr.emp, [], 0⟩ (by kernel_rfl) ?_
     obtain ⟨v4, hx_19, h⟩ := bsome h
     refine RW.cut fokW 4 (⟨[(1, .ptr 0 0), (48, .d (.bool v4))], [(0, .var 25 (cv25 t))], 1, Fr.emp, [], 0⟩) ?_ ?_
     ·refine r_split 44 rfl (fun hb_21 => ?_) (fun hb_21 => ?_)
      ·have h := ifT hb_21 hx_19
       refine RunC.auX 2 ⟨[(1, .ptr 0 0), (44, .d (.bool true)), (46, .d (I t.Along))], [(0, .var 25 (cv25 t))], 1, Fr.emp, [], 0⟩ (by kernel_rfl) ?_
       obtain ⟨r0_5, hx_20, h⟩ := bsome h
       refine r_call rfl rfl (k63 t.Along (-60) 60 _ hx_20) rfl rfl ?_
       refine RunC.auX 1 ⟨[(1, .ptr 0 0), (48, .d (.bool r0_5))], [(0, .var 25 (cv25 t))], 1, Fr.emp, [], 0⟩ (by kernel_rfl) ?_
       obtain rfl := Option.some.inj h
       refine RunC.finJ (Can.kp (by kernel_rfl))
      ·have h := ifF hb_21 hx_19
       refine RunC.auX 4 ⟨[(1, .ptr 0 0), (48, .d (.bool false))], [(0, .var 25 (cv25 t))], 1, Fr.emp, [], 0⟩ (by kernel_rfl) ?_
       obtain rfl := Option.some.inj h
       refine RunC.finJ (Can.kp (by kernel_rfl))
     ·refine RW.au fokW 1 [] ⟨[(1, .ptr 0 0), (49, .d (.bool v4))], [(0, .var 25 (cv25 t))], 1, Fr.emp, [], 0⟩ (by kernel_rfl) ?_
      obtain ⟨v5, hx_22, h⟩ := bsome h
      refine RW.cut fokW 4 (⟨[(1, .ptr 0 0), (53, .d (.bool v5))], [(0, .var 25 (cv25 t))], 1, Fr.emp, [], 0⟩) ?_ ?_
      ·refine r_split 49 rfl (fun hb_24 => ?_) (fun hb_24 => ?_)
       ·have h := ifT hb_24 hx_22
        refine RunC.auX 2 ⟨[(1, .ptr 0 0), (49, .d (.bool true)), (51, .d (I t.High))], [(0, .var 25 (cv25 t))], 1, Fr.emp, [], 0⟩ (by kernel_rfl) ?_
        obtain ⟨r0_6, hx_23, h⟩ := bsome h
        refine r_call rfl rfl (k63 t.High 0 60 _ hx_23) rfl rfl ?_
        refine RunC.auX 1 ⟨[(1, .ptr 0 0), (53, .d (.bool r0_6))], [(0, .var 25 (cv25 t))], 1, Fr.emp, [], 0⟩ (by kernel_rfl) ?_
        obtain rfl := Option.some.inj h
        refine RunC.finJ (Can.kp (by kernel_rfl))
       ·have h := ifF hb_24 hx_22
        refine RunC.auX 4 ⟨[(1, .ptr 0 0), (53, .d (.bool false))], [(0, .var 25 (cv25 t))], 1, Fr.emp, [], 0⟩ (by kernel_rfl) ?_
        obtain rfl := Option.some.inj h
        refine RunC.finJ (Can.kp (by kernel_rfl))
      ·refine RW.au fokW 1 [] ⟨[(1, .ptr 0 0), (3, .d (.bool v5))], [(0, .var 25 (cv25 t))], 1, Fr.emp, [], 0⟩ (by kernel_rfl) ?_
       refine RW.nil ?_
       refine hQ_15 _ ?_
       refine AW.srwK (fun Q_25 hQ_25 => ?_)
       refine RW.au fokW 2 [] ⟨[(1, .ptr 0 0), (55, .d (.bool v5))], [(0, .var 25 (cv25 t))], 1, Fr.emp, [], 0⟩ (by kernel_rfl) ?_
       obtain ⟨v6, hx_26, h⟩ := bsome h
       refine RW.cut fokW 4 (⟨[(1, .ptr 0 0), (59, .d (.bool v6))], [(0, .var 25 (cv25 t))], 1, Fr.emp, [], 0⟩) ?_ ?_
       ·refine r_split 55 rfl (fun hb_28 => ?_) (fun hb_28 => ?_)
        ·have h := ifT hb_28 hx_26
         refine RunC.auX 2 ⟨[(1, .ptr 0 0), (55, .d (.bool true)), (57, .d (I t.Lean_))], [(0, .var 25 (cv25 t))], 1, Fr.emp, [], 0⟩ (by kernel_rfl) ?_
         obtain ⟨r0_7, hx_27, h⟩ := bsome h
         refine r_call rfl rfl (k63 t.Lean_ 0 12 _ hx_27) rfl rfl ?_
         refine RunC.auX 1 ⟨[(1, .ptr 0 0), (59, .d (.bool r0_7))], [(0, .var 25 (cv25 t))], 1, Fr.emp, [], 0⟩ (by kernel_rfl) ?_
         obtain rfl := Option.some.inj h
         refine RunC.finJ (Can.kp (by kernel_rfl))
        ·have h := ifF hb_28 hx_26
         refine RunC.auX 4 ⟨[(1, .ptr 0 0), (59, .d (.bool false))], [(0, .var 25 (cv25 t))], 1, Fr.emp, [], 0⟩ (by kernel_rfl) ?_
         obtain rfl := Option.some.inj h
         refine RunC.finJ (Can.kp (by kernel_rfl))
       ·refine RW.au fokW 1 [] ⟨[(1, .ptr 0 0), (60, .d (.bool v6))], [(0, .var 25 (cv25 t))], 1, Fr.emp, [], 0⟩ (by kernel_rfl) ?_
        obtain ⟨v7, hx_29, h⟩ := bsome h
        refine RW.cut fokW 4 (⟨[(1, .ptr 0 0), (64, .d (.bool v7))], [(0, .var 25 (cv25 t))], 1, Fr.emp, [], 0⟩) ?_ ?_
        ·refine r_split 60 rfl (fun hb_31 => ?_) (fun hb_31 => ?_)
         ·have h := ifT hb_31 hx_29
          refine RunC.auX 2 ⟨[(1, .ptr 0 0), (60, .d (.bool true)), (62, .d (I t.Limit))], [(0, .var 25 (cv25 t))], 1, Fr.emp, [], 0⟩ (by kernel_rfl) ?_
          obtain ⟨r0_8, hx_30, h⟩ := bsome h
          refine r_call rfl rfl (k63 t.Limit 1 60 _ hx_30) rfl rfl ?_
          refine RunC.auX 1 ⟨[(1, .ptr 0 0), (64, .d (.bool r0_8))], [(0, .var 25 (cv25 t))], 1, Fr.emp, [], 0⟩ (by kernel_rfl) ?_
          obtain rfl := Option.some.inj h
          refine RunC.finJ (Can.kp (by kernel_rfl))
         ·have h := ifF hb_31 hx_29
          refine RunC.auX 4 ⟨[(1, .ptr 0 0), (64, .d (.bool false))], [(0, .var 25 (cv25 t))], 1, Fr.emp, [], 0⟩ (by kernel_rfl) ?_
          obtain rfl := Option.some.inj h
          refine RunC.finJ (Can.kp (by kernel_rfl))
        ·refine RW.au fokW 1 [] ⟨[(1, .ptr 0 0), (65, .d (.bool v7))], [(0, .var 25 (cv25 t))], 1, Fr.emp, [], 0⟩ (by kernel_rfl) ?_
         obtain ⟨v8, hx_32, h⟩ := bsome h
         refine RW.cut fokW 5 (⟨[(1, .ptr 0 0), (70, .d (.bool v8))], [(0, .var 25 (cv25 t))], 1, Fr.emp, [], 0⟩) ?_ ?_
         ·refine r_split 65 rfl (fun hb_33 => ?_) (fun hb_33 => ?_)
          ·have h := ifT hb_33 hx_32
           refine RunC.auX 2 ⟨[(1, .ptr 0 0), (65, .d (.bool true)), (67, .d (.sl 3 (List.map e65 t.Trials)))], [(0, .var 25 (cv25 t))], 1, Fr.emp, [], 0⟩ (by kernel_rfl) ?_
           refine r_lenX rfl rfl lenm ?_
           refine RunC.auX 2 ⟨[(1, .ptr 0 0), (70, .d (.bool (decide ((t.Trials.length : Int) ≤ 5))))], [(0, .var 25 (cv25 t))], 1, Fr.emp, [], 0⟩ (by kernel_rfl) ?_
           obtain rfl := Option.some.inj h
           refine RunC.finJ (Can.kp (by kernel_rfl))
          ·have h := ifF hb_33 hx_32
           refine RunC.auX 5 ⟨[(1, .ptr 0 0), (70, .d (.bool false))], [(0, .var 25 (cv25 t))], 1, Fr.emp, [], 0⟩ (by kernel_rfl) ?_
           obtain rfl := Option.some.inj h
           refine RunC.finJ (Can.kp (by kernel_rfl))
         ·refine RW.au fokW 1 [] ⟨[(1, .ptr 0 0), (3, .d (.bool v8))], [(0, .var 25 (cv25 t))], 1, Fr.emp, [], 0⟩ (by kernel_rfl) ?_
          refine RW.nil ?_
          refine hQ_25 _ ?_
          refine AW.seqK (fun K_34 hK_34 => ?_)
          refine AW.srwK (fun Q_35 hQ_35 => ?_)
          refine RW.au fokW 2 [] ⟨[(1, .ptr 0 0), (3, .d (.bool v8)), (72, .d (.sl 4 (List.map e70 t.Parts)))], [(0, .var 25 (cv25 t))], 1, Fr.emp, [], 0⟩ (by kernel_rfl) ?_
          refine RW.one fokW (r_lenX trivial rfl lenm (r_end ?_))
          refine RW.au fokW 1 [] ⟨[(1, .ptr 0 0), (3, .d (.bool v8)), (72, .d (.sl 4 (List.map e70 t.Parts))), (73, .d (I (t.Parts.length : Int))), (74, .d (I 0))], [(0, .var 25 (cv25 t))], 1, Fr.emp, [], 0⟩ (by kernel_rfl) ?_
          refine RW.nil ?_
          refine hQ_35 _ ?_
          refine AW.block ?_
          refine AW.sln (t := 72) rfl (fun hN_36 => ?_)
          rw [List.length_map] at hN_36
          obtain ⟨out_36, hx_36, h⟩ := bsome h
          refine AW.evSK (fun (v9 : Int) (r_1 : Bool) => ⟨[(1, .ptr 0 0), (3, .d (.bool r_1)), (72, .d (.sl 4 (List.map e70 t.Parts))), (73, .d (I (t.Parts.length : Int))), (74, .d (I v9))], [(0, .var 25 (cv25 t))], 1, Fr.emp, [], 0⟩) g18_36 hx_36 (Can.kp (by kernel_rfl)) (fun v9 p r_1 hi_36 hl_36 hp_36 c_36 h K_36 hK_36 => ?_) (fun v9 r_1 hi_36 hl_36 hout => ?_)
          ·unfold g18_36 at h
           refine AW.sa fokW [] ⟨[(1, .ptr 0 0), (3, .d (.bool r_1)), (72, .d (.sl 4 (List.map e70 t.Parts))), (73, .d (I (t.Parts.length : Int))), (74, .d (I v9)), (75, .d (.bool (decide (v9 < (t.Parts.length : Int)))))], [(0, .var 25 (cv25 t))], 1, Fr.emp, [], 0⟩ (by kernel_rfl) ?_
           refine AW.seqK (fun K_37 hK_37 => ?_)
           refine AW.cond rfl (fun hb_38 => ?_) (fun hb_38 => False.elim (by have := of_decide_eq_false hb_38; omega))
           refine AW.skip ?_
           refine hK_37 _ ?_
           refine AW.seqK (fun K_39 hK_39 => ?_)
           refine AW.block ?_
           refine AW.srwK (fun Q_40 hQ_40 => ?_)
           refine RW.one fokW (r_iaD trivial rfl rfl hi_36 (row := e70 p) (mapget hp_36) (r_end ?_))
           refine RW.au fokW 3 [] ⟨[(1, .ptr 0 0), (3, .d (.bool r_1)), (5, .ptr 1 0), (72, .d (.sl 4 (List.map e70 t.Parts))), (73, .d (I (t.Parts.length : Int))), (74, .d (I v9))], [(1, .var 70 (cv70 p)), (0, .var 25 (cv25 t))], 2, Fr.emp, [], 0⟩ (by kernel_rfl) ?_
           refine RW.nil ?_
           refine hQ_40 _ ?_
           refine AW.sa fokW [] ⟨[(1, .ptr 0 0), (3, .d (.bool r_1)), (5, .ptr 1 0), (6, .ptr 2 0), (72, .d (.sl 4 (List.map e70 t.Parts))), (73, .d (I (t.Parts.length : Int))), (74, .d (I v9))], [(2, .var 42 [.d (I p.Weight.Low), .d (I p.Weight.High)]), (1, .var 70 (cv70 p)), (0, .var 25 (cv25 t))], 3, Fr.emp, [], 0⟩ (by kernel_rfl) ?_
           refine AW.srwK (fun Q_41 hQ_41 => ?_)
           refine RW.au fokW 2 [] ⟨[(1, .ptr 0 0), (5, .ptr 1 0), (6, .ptr 2 0), (72, .d (.sl 4 (List.map e70 t.Parts))), (73, .d (I (t.Parts.length : Int))), (74, .d (I v9)), (81, .d (.bool r_1))], [(2, .var 42 [.d (I p.Weight.Low), .d (I p.Weight.High)]), (1, .var 70 (cv70 p)), (0, .var 25 (cv25 t))], 3, Fr.emp, [], 0⟩ (by kernel_rfl) ?_
           obtain ⟨v10, hx_42, h⟩ := bsome h
           refine RW.cut fokW 6 (⟨[(1, .ptr 0 0), (5, .ptr 1 0), (6, .ptr 2 0), (72, .d (.sl 4 (List.map e70 t.Parts))), (73, .d (I (t.Parts.length : Int))), (74, .d (I v9)), (87, .d (.bool v10))], [(2, .var 42 [.d (I p.Weight.Low), .d (I p.Weight.High)]), (1, .var 70 (cv70 p)), (0, .var 25 (cv25 t))], 3, Fr.emp, [], 0⟩) ?_ ?_
           ·refine r_split 81 rfl (fun hb_44 => ?_) (fun hb_44 => ?_)
            ·have h := ifT hb_44 hx_42
             refine RunC.auX 4 ⟨[(1, .ptr 0 0), (5, .ptr 1 0), (6, .ptr 2 0), (72, .d (.sl 4 (List.map e70 t.Parts))), (73, .d (I (t.Parts.length : Int))), (74, .d (I v9)), (81, .d (.bool true)), (82, .ptr 2 0), (83, .d (I p.Weight.Low)), (84, .ptr 2 1), (85, .d (I p.Weight.High))], [(2, .var 42 [.d (I p.Weight.Low), .d (I p.Weight.High)]), (1, .var 70 (cv70 p)), (0, .var 25 (cv25 t))], 3, Fr.emp, [], 0⟩ (by kernel_rfl) ?_
             obtain ⟨r0_9, hx_43, h⟩ := bsome h
             refine r_call rfl rfl (k63 p.Weight.Low 1 p.Weight.High _ hx_43) rfl rfl ?_
             refine RunC.auX 1 ⟨[(1, .ptr 0 0), (5, .ptr 1 0), (6, .ptr 2 0), (72, .d (.sl 4 (List.map e70 t.Parts))), (73, .d (I (t.Parts.length : Int))), (74, .d (I v9)), (82, .ptr 2 0), (83, .d (I p.Weight.Low)), (84, .ptr 2 1), (85, .d (I p.Weight.High)), (86, .d (.bool r0_9)), (87, .d (.bool r0_9))], [(2, .var 42 [.d (I p.Weight.Low), .d (I p.Weight.High)]), (1, .var 70 (cv70 p)), (0, .var 25 (cv25 t))], 3, Fr.emp, [], 0⟩ (by kernel_rfl) ?_
             obtain rfl := Option.some.inj h
             refine RunC.finJ (Can.kp (by kernel_rfl))
            ·have h := ifF hb_44 hx_42
             refine RunC.auX 6 ⟨[(1, .ptr 0 0), (5, .ptr 1 0), (6, .ptr 2 0), (72, .d (.sl 4 (List.map e70 t.Parts))), (73, .d (I (t.Parts.length : Int))), (74, .d (I v9)), (82, .undef), (83, .undef), (84, .undef), (85, .undef), (86, .undef), (87, .d (.bool false))], [(2, .var 42 [.d (I p.Weight.Low), .d (I p.Weight.High)]), (1, .var 70 (cv70 p)), (0, .var 25 (cv25 t))], 3, Fr.emp, [], 0⟩ (by kernel_rfl) ?_
             obtain rfl := Option.some.inj h
             refine RunC.finJ (Can.kp (by kernel_rfl))
           ·refine RW.au fokW 14 [88, 93] ⟨[(1, .ptr 0 0), (3, .d (.bool ((v10 && (decide (p.Weight.High ≤ 99))) && (decide ((wr (p.Weight.High - p.Weight.Low)) ≤ 4))))), (5, .ptr 1 0), (72, .d (.sl 4 (List.map e70 t.Parts))), (73, .d (I (t.Parts.length : Int))), (74, .d (I v9))], [(1, .var 70 (cv70 p)), (0, .var 25 (cv25 t))], 3, Fr.emp, [], 0⟩ (by kernel_rfl) ?_
            refine RW.nil ?_
            refine hQ_41 _ ?_
            refine AW.rw ?_
            refine RW.au fokW 2 [] ⟨[(1, .ptr 0 0), (5, .ptr 1 0), (72, .d (.sl 4 (List.map e70 t.Parts))), (73, .d (I (t.Parts.length : Int))), (74, .d (I v9)), (102, .d (.bool ((v10 && (decide (p.Weight.High ≤ 99))) && (decide ((wr (p.Weight.High - p.Weight.Low)) ≤ 4)))))], [(1, .var 70 (cv70 p)), (0, .var 25 (cv25 t))], 3, Fr.emp, [], 0⟩ (by kernel_rfl) ?_
            obtain ⟨v11, hx_46, h⟩ := bsome h
            refine RW.cut fokW 4 (⟨[(1, .ptr 0 0), (5, .ptr 1 0), (72, .d (.sl 4 (List.map e70 t.Parts))), (73, .d (I (t.Parts.length : Int))), (74, .d (I v9)), (106, .d (.bool v11))], [(1, .var 70 (cv70 p)), (0, .var 25 (cv25 t))], 2, Fr.emp, [], 0⟩) ?_ ?_
            ·refine r_split 102 rfl (fun hb_48 => ?_) (fun hb_48 => ?_)
             ·have h := ifT hb_48 hx_46
              refine RunC.auX 2 ⟨[(1, .ptr 0 0), (5, .ptr 1 0), (72, .d (.sl 4 (List.map e70 t.Parts))), (73, .d (I (t.Parts.length : Int))), (74, .d (I v9)), (102, .d (.bool true)), (103, .ptr 1 2), (104, .d (I p.Along))], [(1, .var 70 (cv70 p)), (0, .var 25 (cv25 t))], 3, Fr.emp, [], 0⟩ (by kernel_rfl) ?_
              obtain ⟨r0_10, hx_47, h⟩ := bsome h
              refine r_call rfl rfl (k63 p.Along (-60) 60 _ hx_47) rfl rfl ?_
              refine RunC.auX 1 ⟨[(1, .ptr 0 0), (5, .ptr 1 0), (72, .d (.sl 4 (List.map e70 t.Parts))), (73, .d (I (t.Parts.length : Int))), (74, .d (I v9)), (103, .ptr 1 2), (104, .d (I p.Along)), (105, .d (.bool r0_10)), (106, .d (.bool r0_10))], [(1, .var 70 (cv70 p)), (0, .var 25 (cv25 t))], 3, Fr.emp, [], 0⟩ (by kernel_rfl) ?_
              obtain rfl := Option.some.inj h
              refine RunC.finJ (Can.kp (by kernel_rfl))
             ·have h := ifF hb_48 hx_46
              refine RunC.auX 4 ⟨[(1, .ptr 0 0), (5, .ptr 1 0), (72, .d (.sl 4 (List.map e70 t.Parts))), (73, .d (I (t.Parts.length : Int))), (74, .d (I v9)), (103, .undef), (104, .undef), (105, .undef), (106, .d (.bool false))], [(1, .var 70 (cv70 p)), (0, .var 25 (cv25 t))], 3, Fr.emp, [], 0⟩ (by kernel_rfl) ?_
              obtain rfl := Option.some.inj h
              refine RunC.finJ (Can.kp (by kernel_rfl))
            ·refine RW.au fokW 1 [] ⟨[(1, .ptr 0 0), (5, .ptr 1 0), (72, .d (.sl 4 (List.map e70 t.Parts))), (73, .d (I (t.Parts.length : Int))), (74, .d (I v9)), (107, .d (.bool v11))], [(1, .var 70 (cv70 p)), (0, .var 25 (cv25 t))], 2, Fr.emp, [], 0⟩ (by kernel_rfl) ?_
             obtain ⟨v12, hx_49, h⟩ := bsome h
             refine RW.cut fokW 4 (⟨[(1, .ptr 0 0), (72, .d (.sl 4 (List.map e70 t.Parts))), (73, .d (I (t.Parts.length : Int))), (74, .d (I v9)), (111, .d (.bool v12))], [(0, .var 25 (cv25 t))], 1, Fr.emp, [], 0⟩) ?_ ?_
             ·refine r_split 107 rfl (fun hb_51 => ?_) (fun hb_51 => ?_)
              ·have h := ifT hb_51 hx_49
               refine RunC.auX 2 ⟨[(1, .ptr 0 0), (72, .d (.sl 4 (List.map e70 t.Parts))), (73, .d (I (t.Parts.length : Int))), (74, .d (I v9)), (107, .d (.bool true)), (108, .ptr 1 3), (109, .d (I p.High))], [(1, .var 70 (cv70 p)), (0, .var 25 (cv25 t))], 2, Fr.emp, [], 0⟩ (by kernel_rfl) ?_
               obtain ⟨r0_11, hx_50, h⟩ := bsome h
               refine r_call rfl rfl (k63 p.High 0 60 _ hx_50) rfl rfl ?_
               refine RunC.auX 1 ⟨[(1, .ptr 0 0), (72, .d (.sl 4 (List.map e70 t.Parts))), (73, .d (I (t.Parts.length : Int))), (74, .d (I v9)), (108, .ptr 1 3), (109, .d (I p.High)), (110, .d (.bool r0_11)), (111, .d (.bool r0_11))], [(1, .var 70 (cv70 p)), (0, .var 25 (cv25 t))], 2, Fr.emp, [], 0⟩ (by kernel_rfl) ?_
               obtain rfl := Option.some.inj h
               refine RunC.finJ (Can.kp (by kernel_rfl))
              ·have h := ifF hb_51 hx_49
               refine RunC.auX 4 ⟨[(1, .ptr 0 0), (72, .d (.sl 4 (List.map e70 t.Parts))), (73, .d (I (t.Parts.length : Int))), (74, .d (I v9)), (108, .undef), (109, .undef), (110, .undef), (111, .d (.bool false))], [(1, .var 70 (cv70 p)), (0, .var 25 (cv25 t))], 2, Fr.emp, [], 0⟩ (by kernel_rfl) ?_
               obtain rfl := Option.some.inj h
               refine RunC.finJ (Can.kp (by kernel_rfl))
             ·refine RW.au fokW 1 [] ⟨[(1, .ptr 0 0), (3, .d (.bool v12)), (72, .d (.sl 4 (List.map e70 t.Parts))), (73, .d (I (t.Parts.length : Int))), (74, .d (I v9))], [(0, .var 25 (cv25 t))], 1, Fr.emp, [], 0⟩ (by kernel_rfl) ?_
              refine RW.nil ?_
              refine hK_39 _ ?_
              refine AW.ra fokW [] ⟨[(1, .ptr 0 0), (3, .d (.bool v12)), (72, .d (.sl 4 (List.map e70 t.Parts))), (73, .d (I (t.Parts.length : Int))), (74, .d (I (wr (v9 + 1))))], [(0, .var 25 (cv25 t))], 1, Fr.emp, [], 0⟩ (by kernel_rfl) ?_
              obtain rfl := Option.some.inj h
              have ew : wr (v9 + 1) = v9 + 1 := inext (N := (t.Parts.length : Int)) (by omega) (by omega) (by omega)
              rw [ew]
              exact hK_36 _ (Can.kp (by kernel_rfl))
          ·subst hout
           refine AW.sa fokW [] ⟨[(1, .ptr 0 0), (3, .d (.bool r_1)), (72, .d (.sl 4 (List.map e70 t.Parts))), (73, .d (I (t.Parts.length : Int))), (74, .d (I v9)), (75, .d (.bool (decide (v9 < (t.Parts.length : Int)))))], [(0, .var 25 (cv25 t))], 1, Fr.emp, [], 0⟩ (by kernel_rfl) ?_
           refine AW.seqK (fun K_52 hK_52 => ?_)
           refine AW.cond rfl (fun hb_53 => False.elim (by have := of_decide_eq_true hb_53; omega)) (fun hb_53 => ?_)
           refine AW.exit ?_
           refine hK_34 _ ?_
           refine AW.seqK (fun K_54 hK_54 => ?_)
           refine AW.srwK (fun Q_55 hQ_55 => ?_)
           refine RW.au fokW 2 [] ⟨[(1, .ptr 0 0), (3, .d (.bool r_1)), (114, .d (.sl 3 (List.map e65 t.Trials)))], [(0, .var 25 (cv25 t))], 1, Fr.emp, [], 0⟩ (by kernel_rfl) ?_
           refine RW.one fokW (r_lenX trivial rfl lenm (r_end ?_))
           refine RW.au fokW 1 [] ⟨[(1, .ptr 0 0), (3, .d (.bool r_1)), (114, .d (.sl 3 (List.map e65 t.Trials))), (115, .d (I (t.Trials.length : Int))), (116, .d (I 0))], [(0, .var 25 (cv25 t))], 1, Fr.emp, [], 0⟩ (by kernel_rfl) ?_
           refine RW.nil ?_
           refine hQ_55 _ ?_
           refine AW.block ?_
           refine AW.sln (t := 114) rfl (fun hN_56 => ?_)
           rw [List.length_map] at hN_56
           obtain ⟨out_56, hx_56, h⟩ := bsome h
           refine AW.evSK (fun (v13 : Int) (r_2 : Bool) => ⟨[(1, .ptr 0 0), (3, .d (.bool r_2)), (114, .d (.sl 3 (List.map e65 t.Trials))), (115, .d (I (t.Trials.length : Int))), (116, .d (I v13))], [(0, .var 25 (cv25 t))], 1, Fr.emp, [], 0⟩) (g18_56 t) hx_56 (Can.kp (by kernel_rfl)) (fun v13 p1 r_2 hi_56 hl_56 hp_56 c_56 h K_56 hK_56 => ?_) (fun v13 r_2 hi_56 hl_56 hout => ?_)
           ·unfold g18_56 at h
            refine AW.sa fokW [] ⟨[(1, .ptr 0 0), (3, .d (.bool r_2)), (114, .d (.sl 3 (List.map e65 t.Trials))), (115, .d (I (t.Trials.length : Int))), (116, .d (I v13)), (117, .d (.bool (decide (v13 < (t.Trials.length : Int)))))], [(0, .var 25 (cv25 t))], 1, Fr.emp, [], 0⟩ (by kernel_rfl) ?_
            refine AW.seqK (fun K_57 hK_57 => ?_)
            refine AW.cond rfl (fun hb_58 => ?_) (fun hb_58 => False.elim (by have := of_decide_eq_false hb_58; omega))
            refine AW.skip ?_
            refine hK_57 _ ?_
            refine AW.seqK (fun K_59 hK_59 => ?_)
            refine AW.block ?_
            refine AW.srwK (fun Q_60 hQ_60 => ?_)
            refine RW.one fokW (r_iaD trivial rfl rfl hi_56 (row := e65 p1) (mapget hp_56) (r_end ?_))
            refine RW.au fokW 3 [] ⟨[(1, .ptr 0 0), (3, .d (.bool r_2)), (8, .ptr 1 0), (114, .d (.sl 3 (List.map e65 t.Trials))), (115, .d (I (t.Trials.length : Int))), (116, .d (I v13))], [(1, .var 65 [.d (I p1.Weight), .d (I p1.Lean_), .d (.bool p1.Tipped)]), (0, .var 25 (cv25 t))], 2, Fr.emp, [], 0⟩ (by kernel_rfl) ?_
            refine RW.nil ?_
            refine hQ_60 _ ?_
            refine AW.rw ?_
            refine RW.au fokW 2 [] ⟨[(1, .ptr 0 0), (8, .ptr 1 0), (114, .d (.sl 3 (List.map e65 t.Trials))), (115, .d (I (t.Trials.length : Int))), (116, .d (I v13)), (121, .d (.bool r_2))], [(1, .var 65 [.d (I p1.Weight), .d (I p1.Lean_), .d (.bool p1.Tipped)]), (0, .var 25 (cv25 t))], 2, Fr.emp, [], 0⟩ (by kernel_rfl) ?_
            obtain ⟨v14, hx_62, h⟩ := bsome h
            refine RW.cut fokW 6 (⟨[(1, .ptr 0 0), (8, .ptr 1 0), (114, .d (.sl 3 (List.map e65 t.Trials))), (115, .d (I (t.Trials.length : Int))), (116, .d (I v13)), (127, .d (.bool v14))], [(1, .var 65 [.d (I p1.Weight), .d (I p1.Lean_), .d (.bool p1.Tipped)]), (0, .var 25 (cv25 t))], 2, Fr.emp, [], 0⟩) ?_ ?_
            ·refine r_split 121 rfl (fun hb_64 => ?_) (fun hb_64 => ?_)
             ·have h := ifT hb_64 hx_62
              refine RunC.auX 4 ⟨[(1, .ptr 0 0), (8, .ptr 1 0), (114, .d (.sl 3 (List.map e65 t.Trials))), (115, .d (I (t.Trials.length : Int))), (116, .d (I v13)), (121, .d (.bool true)), (122, .ptr 1 0), (123, .d (I p1.Weight)), (124, .ptr 0 8), (125, .d (I t.Limit))], [(1, .var 65 [.d (I p1.Weight), .d (I p1.Lean_), .d (.bool p1.Tipped)]), (0, .var 25 (cv25 t))], 2, Fr.emp, [], 0⟩ (by kernel_rfl) ?_
              obtain ⟨r0_12, hx_63, h⟩ := bsome h
              refine r_call rfl rfl (k63 p1.Weight 1 t.Limit _ hx_63) rfl rfl ?_
              refine RunC.auX 1 ⟨[(1, .ptr 0 0), (8, .ptr 1 0), (114, .d (.sl 3 (List.map e65 t.Trials))), (115, .d (I (t.Trials.length : Int))), (116, .d (I v13)), (122, .ptr 1 0), (123, .d (I p1.Weight)), (124, .ptr 0 8), (125, .d (I t.Limit)), (126, .d (.bool r0_12)), (127, .d (.bool r0_12))], [(1, .var 65 [.d (I p1.Weight), .d (I p1.Lean_), .d (.bool p1.Tipped)]), (0, .var 25 (cv25 t))], 2, Fr.emp, [], 0⟩ (by kernel_rfl) ?_
              obtain rfl := Option.some.inj h
              refine RunC.finJ (Can.kp (by kernel_rfl))
             ·have h := ifF hb_64 hx_62
              refine RunC.auX 6 ⟨[(1, .ptr 0 0), (8, .ptr 1 0), (114, .d (.sl 3 (List.map e65 t.Trials))), (115, .d (I (t.Trials.length : Int))), (116, .d (I v13)), (122, .undef), (123, .undef), (124, .undef), (125, .undef), (126, .undef), (127, .d (.bool false))], [(1, .var 65 [.d (I p1.Weight), .d (I p1.Lean_), .d (.bool p1.Tipped)]), (0, .var 25 (cv25 t))], 2, Fr.emp, [], 0⟩ (by kernel_rfl) ?_
              obtain rfl := Option.some.inj h
              refine RunC.finJ (Can.kp (by kernel_rfl))
            ·refine RW.au fokW 1 [] ⟨[(1, .ptr 0 0), (8, .ptr 1 0), (114, .d (.sl 3 (List.map e65 t.Trials))), (115, .d (I (t.Trials.length : Int))), (116, .d (I v13)), (128, .d (.bool v14))], [(1, .var 65 [.d (I p1.Weight), .d (I p1.Lean_), .d (.bool p1.Tipped)]), (0, .var 25 (cv25 t))], 2, Fr.emp, [], 0⟩ (by kernel_rfl) ?_
             obtain ⟨v15, hx_65, h⟩ := bsome h
             refine RW.cut fokW 9 (⟨[(1, .ptr 0 0), (114, .d (.sl 3 (List.map e65 t.Trials))), (115, .d (I (t.Trials.length : Int))), (116, .d (I v13)), (137, .d (.bool v15))], [(0, .var 25 (cv25 t))], 1, Fr.emp, [], 0⟩) ?_ ?_
             ·refine r_split 128 rfl (fun hb_67 => ?_) (fun hb_67 => ?_)
              ·have h := ifT hb_67 hx_65
               refine RunC.auX 7 ⟨[(1, .ptr 0 0), (114, .d (.sl 3 (List.map e65 t.Trials))), (115, .d (I (t.Trials.length : Int))), (116, .d (I v13)), (128, .d (.bool true)), (129, .ptr 1 1), (130, .d (I p1.Lean_)), (131, .ptr 0 7), (132, .d (I t.Lean_)), (133, .d (I (wr (-t.Lean_)))), (134, .ptr 0 7), (135, .d (I t.Lean_))], [(1, .var 65 [.d (I p1.Weight), .d (I p1.Lean_), .d (.bool p1.Tipped)]), (0, .var 25 (cv25 t))], 2, Fr.emp, [], 0⟩ (by kernel_rfl) ?_
               obtain ⟨r0_13, hx_66, h⟩ := bsome h
               refine r_call rfl rfl (k63 p1.Lean_ (wr (-t.Lean_)) t.Lean_ _ hx_66) rfl rfl ?_
               refine RunC.auX 1 ⟨[(1, .ptr 0 0), (114, .d (.sl 3 (List.map e65 t.Trials))), (115, .d (I (t.Trials.length : Int))), (116, .d (I v13)), (129, .ptr 1 1), (130, .d (I p1.Lean_)), (131, .ptr 0 7), (132, .d (I t.Lean_)), (133, .d (I (wr (-t.Lean_)))), (134, .ptr 0 7), (135, .d (I t.Lean_)), (136, .d (.bool r0_13)), (137, .d (.bool r0_13))], [(1, .var 65 [.d (I p1.Weight), .d (I p1.Lean_), .d (.bool p1.Tipped)]), (0, .var 25 (cv25 t))], 2, Fr.emp, [], 0⟩ (by kernel_rfl) ?_
               obtain rfl := Option.some.inj h
               refine RunC.finJ (Can.kp (by kernel_rfl))
              ·have h := ifF hb_67 hx_65
               refine RunC.auX 9 ⟨[(1, .ptr 0 0), (114, .d (.sl 3 (List.map e65 t.Trials))), (115, .d (I (t.Trials.length : Int))), (116, .d (I v13)), (129, .undef), (130, .undef), (131, .undef), (132, .undef), (133, .undef), (134, .undef), (135, .undef), (136, .undef), (137, .d (.bool false))], [(1, .var 65 [.d (I p1.Weight), .d (I p1.Lean_), .d (.bool p1.Tipped)]), (0, .var 25 (cv25 t))], 2, Fr.emp, [], 0⟩ (by kernel_rfl) ?_
               obtain rfl := Option.some.inj h
               refine RunC.finJ (Can.kp (by kernel_rfl))
             ·refine RW.au fokW 1 [] ⟨[(1, .ptr 0 0), (3, .d (.bool v15)), (114, .d (.sl 3 (List.map e65 t.Trials))), (115, .d (I (t.Trials.length : Int))), (116, .d (I v13))], [(0, .var 25 (cv25 t))], 1, Fr.emp, [], 0⟩ (by kernel_rfl) ?_
              refine RW.nil ?_
              refine hK_59 _ ?_
              refine AW.ra fokW [] ⟨[(1, .ptr 0 0), (3, .d (.bool v15)), (114, .d (.sl 3 (List.map e65 t.Trials))), (115, .d (I (t.Trials.length : Int))), (116, .d (I (wr (v13 + 1))))], [(0, .var 25 (cv25 t))], 1, Fr.emp, [], 0⟩ (by kernel_rfl) ?_
              obtain rfl := Option.some.inj h
              have ew : wr (v13 + 1) = v13 + 1 := inext (N := (t.Trials.length : Int)) (by omega) (by omega) (by omega)
              rw [ew]
              exact hK_56 _ (Can.kp (by kernel_rfl))
           ·subst hout
            refine AW.sa fokW [] ⟨[(1, .ptr 0 0), (3, .d (.bool r_2)), (114, .d (.sl 3 (List.map e65 t.Trials))), (115, .d (I (t.Trials.length : Int))), (116, .d (I v13)), (117, .d (.bool (decide (v13 < (t.Trials.length : Int)))))], [(0, .var 25 (cv25 t))], 1, Fr.emp, [], 0⟩ (by kernel_rfl) ?_
            refine AW.seqK (fun K_68 hK_68 => ?_)
            refine AW.cond rfl (fun hb_69 => False.elim (by have := of_decide_eq_true hb_69; omega)) (fun hb_69 => ?_)
            refine AW.exit ?_
            refine hK_54 _ ?_
            refine AW.seqK (fun K_70 hK_70 => ?_)
            refine AW.sa fokW [] ⟨[(140, .d (.bool (!r_2)))], [], 1, Fr.emp, [], 0⟩ (by kernel_rfl) ?_
            refine AW.cond rfl (fun hb_71 => ?_) (fun hb_71 => ?_)
            ·have h := ifT hb_71 h
             refine AW.sa fokW [] ⟨[(2, .d (I 20))], [], 1, Fr.emp, [], 0⟩ (by kernel_rfl) ?_
             obtain rfl := Option.some.inj h
             exact AW.ret (hR_0 _ (retX (.cons (.tmp rfl) .nil) (.refl _) rfl (by kernel_rfl) (by kernel_rfl)))
            ·have h := ifF hb_71 h
             refine AW.skip ?_
             refine hK_70 _ ?_
             refine AW.sa fokW [] ⟨[(2, .d (I 0))], [], 1, Fr.emp, [], 0⟩ (by kernel_rfl) ?_
             obtain rfl := Option.some.inj h
             exact AW.ret (hR_0 _ (retX (.cons (.tmp rfl) .nil) (.refl _) rfl (by kernel_rfl) (by kernel_rfl)))
def g84 (bB : StandBook) (bT : (List (Nat → Int))) (bL : Stand_load) : Option (StandBook × (List (Nat → Int)) × Stand_load) := some (bB, bT, bL)
theorem k84 (bB : StandBook) (bT : (List (Nat → Int))) (bL : Stand_load) (r : StandBook × (List (Nat → Int)) × Stand_load) (h : g84 bB bT bL = some r) : SCall Tryd.prog Gs 84 [.agg [.d (I bB.Kind), .d (I bB.Front), .d (I bB.Back), .d (I bB.Radius), .d (.sl 4 (List.map e70 bB.Parts)), .d (I bB.Along), .d (I bB.High), .d (I bB.Lean_), .d (I bB.Limit), .d (.sl 3 (List.map e65 bB.Trials)), .d (.sl 4 (List.map e92 bT)), .d (I bL.weight), .d (I bL.along), .d (I bL.high), .opq]] [] 0 Fr.emp (match r with | (o0B, o0T, o0L) => .clo 98 [] [.ptr 0 0]) (match r with | (o0B, o0T, o0L) => [(0, .var 83 (bkV o0B o0T o0L .opq))]) 1 Fr.emp := by
 unfold g84 at h
 refine SCall.mkK Tryd.func84 c84 rfl rfl (by kernel_rfl) (fun Q_0 hR_0 hN_0 => ?_)
 refine AW.sa fokW [] ⟨[(1, .ptr 0 0)], [(0, .var 83 (bkV bB bT bL .opq))], 1, Fr.emp, [], 0⟩ (by kernel_rfl) ?_
 refine AW.sa fokW [] ⟨[(2, .clo 98 [] [.ptr 0 0])], [(0, .var 83 (bkV bB bT bL .opq))], 1, Fr.emp, [], 0⟩ (by kernel_rfl) ?_
 obtain rfl := Option.some.inj h
 exact AW.ret (hR_0 _ (retX (.cons (.tmp rfl) .nil) (.refl _) rfl (by kernel_rfl) (by kernel_rfl)))
def g100  : Option (Nat → Int) := some (arrL [0, 0, 0, 0])
theorem k100  (r : (Nat → Int)) (h : g100 = some r) : SCall Tryd.prog Gs 100 [] [] 0 Fr.emp (.agg [.d (I (r 0)), .d (I (r 1)), .d (I (r 2)), .d (I (r 3))]) [] 0 Fr.emp := by
 unfold g100 at h
 refine SCall.mkK Tryd.func100 c100 rfl rfl (by kernel_rfl) (fun Q_0 hR_0 hN_0 => ?_)
 refine AW.sa fokW [] ⟨[(0, .ptr 0 0)], [(0, .var 92 [.d (I 0), .d (I 0), .d (I 0), .d (I 0)])], 1, Fr.emp, [], 0⟩ (by kernel_rfl) ?_
 refine AW.sa fokW [] ⟨[(0, .ptr 0 0), (1, .ptr 1 0)], [(1, .var 92 [.d (I 0), .d (I 0), .d (I 0), .d (I 0)]), (0, .var 92 [.d (I 0), .d (I 0), .d (I 0), .d (I 0)])], 2, Fr.emp, [], 0⟩ (by kernel_rfl) ?_
 refine AW.sa fokW [] ⟨[(0, .ptr 0 0)], [(0, .var 92 [.d (I 0), .d (I 0), .d (I 0), .d (I 0)])], 2, Fr.emp, [], 0⟩ (by kernel_rfl) ?_
 obtain rfl := Option.some.inj h
 exact AW.ret (hR_0 _ (retX (.cons (.agg rfl rfl (Nat.le_of_ble_eq_true rfl)) .nil) (.refl _) rfl (by kernel_rfl) (by kernel_rfl)))
def g99_12 {S_ : Type} (rec_ : (Nat → Int) → Int → StandBook → (List (Nat → Int)) → Stand_load → S_ → Option (Bool × S_)) (part : Int) (o0B : StandBook) (o0T : (List (Nat → Int))) (o0L : Stand_load) (p : StandPart) : Int → (S_ × (Nat → Int)) → Option (Ctl (S_ × (Nat → Int)) (Ctl (S_) (Ctl (S_) (Bool × S_)))) := fun v (s_4, w1) => (ixN 4 part).bind fun j => (rec_ (aset w1 j (wr (p.Weight.Low + v))) (wr (part + 1)) o0B o0T o0L s_4).bind fun (r0_5_1, s_8_1) => bif (!r0_5_1) then (some (.brk (.brk (.brk (false, s_8_1))))) else (some (.next (s_8_1, (aset w1 j (wr (p.Weight.Low + v))))))
def g99 {S_ : Type} (c_ : (Nat → Int) → S_ → Option (S_ × Bool)) : Nat → (Nat → Int) → Int → StandBook → (List (Nat → Int)) → Stand_load → S_ → Option (Bool × S_)
 | 0, _, _, _, _, _, _ => none
 | n_ + 1, w, part, o0B, o0T, o0L, s_ => bif (decide (part = (o0B.Parts.length : Int))) then ((g100).bind fun r0 => bif (false != (((w 0) == (r0 0)) && (((w 1) == (r0 1)) && (((w 2) == (r0 2)) && (((w 3) == (r0 3)) && true))))) then (some (true, s_)) else ((c_ w s_).bind fun (s_1, go) => some (go, s_1))) else ((ixL o0B.Parts part).bind fun p => bindC (bindC (bindC (forC (g99_12 (g99 c_ n_) part o0B o0T o0L p) ((((wr ((wr (p.Weight.High - p.Weight.Low)) + 1)) : Int) - 0).toNat) 0 (s_, w)) fun (s_4, w1) => some (.next s_4) : Option (Ctl (S_) (Ctl (S_) (Bool × S_)))) fun s_3 => some (.next s_3) : Option (Ctl (S_) (Bool × S_))) fun s_2 => some (true, s_2))
theorem k99 {S_ : Type} (fr_ : S_ → Fr) (c_ : (Nat → Int) → S_ → Option (S_ × Bool)) (hc_ : ∀ (a0 : (Nat → Int)) s s2 b, c_ a0 s = some (s2, b) → YCall Tryd.prog Gs (fr_ s) [.agg [.d (I (a0 0)), .d (I (a0 1)), .d (I (a0 2)), .d (I (a0 3))]] (.d (.bool b)) (fr_ s2)) : ∀ (n_ : Nat) (w : (Nat → Int)) (part : Int) (o0B : StandBook) (o0T : (List (Nat → Int))) (o0L : Stand_load) (s_ : S_) (r : Bool × S_) (h : g99 c_ n_ w part o0B o0T o0L s_ = some r), SCall Tryd.prog Gs 99 [.agg [.d (I (w 0)), .d (I (w 1)), .d (I (w 2)), .d (I (w 3))], .d (I part), .ptr 0 0, .ptr 1 0, .ptr 2 0] [(0, .var 83 (bkV o0B o0T o0L .opq)), (1, .var 126 [.yld]), (2, .var 127 [.clo 99 [] [.ptr 0 0, .ptr 1 0, .ptr 2 0]])] 3 (fr_ s_) (match r with | (r0_5, s_8) => .d (.bool r0_5)) (match r with | (r0_5, s_8) => [(0, .var 83 (bkV o0B o0T o0L .opq)), (1, .var 126 [.yld]), (2, .var 127 [.clo 99 [] [.ptr 0 0, .ptr 1 0, .ptr 2 0]])]) 3 (fr_ (match r with | (r0_5, s_8) => s_8)) := by
 intro n_
 induction n_ with
 | zero => intro w part o0B o0T o0L s_ r h; cases h
 | succ n_ ih =>
  intro w part o0B o0T o0L s_ r h
  rw [g99] at h
  refine SCall.mkK Tryd.func99 c99 rfl rfl (by kernel_rfl) (fun Q_0 hR_0 hN_0 => ?_)
  refine AW.sa fokW [] ⟨[(1, .d (I part)), (2, .ptr 0 0), (3, .ptr 1 0), (4, .ptr 2 0), (5, .ptr 3 0)], [(3, .var 92 [.d (I (w 0)), .d (I (w 1)), .d (I (w 2)), .d (I (w 3))]), (0, .var 83 (bkV o0B o0T o0L .opq)), (1, .var 126 [.yld]), (2, .var 127 [.clo 99 [] [.ptr 0 0, .ptr 1 0, .ptr 2 0]])], 4, (fr_ s_), [], 3⟩ (by kernel_rfl) ?_
  refine AW.seqK (fun K_1 hK_1 => ?_)
  refine AW.srwK (fun Q_2 hQ_2 => ?_)
  refine RW.au fokW 4 [] ⟨[(1, .d (I part)), (2, .ptr 0 0), (3, .ptr 1 0), (4, .ptr 2 0), (5, .ptr 3 0), (10, .d (I part)), (13, .d (.sl 4 (List.map e70 o0B.Parts)))], [(3, .var 92 [.d (I (w 0)), .d (I (w 1)), .d (I (w 2)), .d (I (w 3))]), (0, .var 83 (bkV o0B o0T o0L .opq)), (1, .var 126 [.yld]), (2, .var 127 [.clo 99 [] [.ptr 0 0, .ptr 1 0, .ptr 2 0]])], 4, (fr_ s_), [], 3⟩ (by kernel_rfl) ?_
  refine RW.one fokW (r_lenX trivial rfl lenm (r_end ?_))
  refine RW.au fokW 1 [] ⟨[(1, .d (I part)), (2, .ptr 0 0), (3, .ptr 1 0), (4, .ptr 2 0), (5, .ptr 3 0), (15, .d (.bool (decide (part = (o0B.Parts.length : Int)))))], [(3, .var 92 [.d (I (w 0)), .d (I (w 1)), .d (I (w 2)), .d (I (w 3))]), (0, .var 83 (bkV o0B o0T o0L .opq)), (1, .var 126 [.yld]), (2, .var 127 [.clo 99 [] [.ptr 0 0, .ptr 1 0, .ptr 2 0]])], 4, (fr_ s_), [], 3⟩ (by kernel_rfl) ?_
  refine RW.nil ?_
  refine hQ_2 _ ?_
  refine AW.cond rfl (fun hb_3 => ?_) (fun hb_3 => ?_)
  ·have h := ifT hb_3 h
   refine AW.sdrwK fokW (fun Q_4 hQ_4 => ?_)
   refine RunC.auX 1 ⟨[(3, .ptr 1 0), (5, .ptr 3 0), (16, .agg [.d (I (w 0)), .d (I (w 1)), .d (I (w 2)), .d (I (w 3))])], [(3, .var 92 [.d (I (w 0)), .d (I (w 1)), .d (I (w 2)), .d (I (w 3))]), (0, .var 83 (bkV o0B o0T o0L .opq)), (1, .var 126 [.yld]), (2, .var 127 [.clo 99 [] [.ptr 0 0, .ptr 1 0, .ptr 2 0]])], 4, (fr_ s_), [], 3⟩ (by kernel_rfl) ?_
   obtain ⟨r0, hx_5, h⟩ := bsome h
   refine r_call trivial rfl (k100 _ hx_5) rfl rfl ?_
   refine r_aeq trivial rfl rfl rfl rfl ft92 rfl rfl rfl ?_
   refine RunC.auX 1 ⟨[(3, .ptr 1 0), (5, .ptr 3 0), (19, .d (.bool (false != (((w 0) == (r0 0)) && (((w 1) == (r0 1)) && (((w 2) == (r0 2)) && (((w 3) == (r0 3)) && true)))))))], [(3, .var 92 [.d (I (w 0)), .d (I (w 1)), .d (I (w 2)), .d (I (w 3))]), (0, .var 83 (bkV o0B o0T o0L .opq)), (1, .var 126 [.yld]), (2, .var 127 [.clo 99 [] [.ptr 0 0, .ptr 1 0, .ptr 2 0]])], 4, (fr_ s_), [], 3⟩ (by kernel_rfl) ?_
   refine r_split 19 rfl (fun hb_6 => ?_) (fun hb_6 => ?_)
   ·have h := ifT hb_6 h
    refine RunC.auX 5 ⟨[(7, .d (.bool true))], [(3, .var 92 [.d (I (w 0)), .d (I (w 1)), .d (I (w 2)), .d (I (w 3))]), (0, .var 83 (bkV o0B o0T o0L .opq)), (1, .var 126 [.yld]), (2, .var 127 [.clo 99 [] [.ptr 0 0, .ptr 1 0, .ptr 2 0]])], 4, (fr_ s_), [], 3⟩ (by kernel_rfl) ?_
    refine RunC.fin ⟨[(7, .d (.bool true))], [(0, .var 83 (bkV o0B o0T o0L .opq)), (1, .var 126 [.yld]), (2, .var 127 [.clo 99 [] [.ptr 0 0, .ptr 1 0, .ptr 2 0]])], 4, (fr_ s_), [], 3⟩ (by kernel_rfl) (by kernel_rfl) ?_
    refine hQ_4 _ ?_
    obtain rfl := Option.some.inj h
    exact AW.ret (hR_0 _ (retX (.cons (.tmp rfl) .nil) (.refl _) rfl (by kernel_rfl) (by kernel_rfl)))
   ·have h := ifF hb_6 h
    refine RunC.auX 2 ⟨[(19, .d (.bool false)), (20, .yld), (21, .agg [.d (I (w 0)), .d (I (w 1)), .d (I (w 2)), .d (I (w 3))])], [(3, .var 92 [.d (I (w 0)), .d (I (w 1)), .d (I (w 2)), .d (I (w 3))]), (0, .var 83 (bkV o0B o0T o0L .opq)), (1, .var 126 [.yld]), (2, .var 127 [.clo 99 [] [.ptr 0 0, .ptr 1 0, .ptr 2 0]])], 4, (fr_ s_), [], 3⟩ (by kernel_rfl) ?_
    obtain ⟨⟨s_1, go⟩, hx_7, h⟩ := bsome h
    refine r_yield (zr := []) rfl rfl rfl (hc_ w _ _ _ hx_7) trivial ⟨.refl _, trivial⟩ rfl rfl rfl rfl ?_
    refine RunC.auX 2 ⟨[(7, .d (.bool go))], [(3, .var 92 [.d (I (w 0)), .d (I (w 1)), .d (I (w 2)), .d (I (w 3))]), (0, .var 83 (bkV o0B o0T o0L .opq)), (1, .var 126 [.yld]), (2, .var 127 [.clo 99 [] [.ptr 0 0, .ptr 1 0, .ptr 2 0]])], 4, (fr_ s_1), [], 3⟩ (by kernel_rfl) ?_
    refine RunC.fin ⟨[(7, .d (.bool go))], [(0, .var 83 (bkV o0B o0T o0L .opq)), (1, .var 126 [.yld]), (2, .var 127 [.clo 99 [] [.ptr 0 0, .ptr 1 0, .ptr 2 0]])], 4, (fr_ s_1), [], 3⟩ (by kernel_rfl) (by kernel_rfl) ?_
    refine hQ_4 _ ?_
    obtain rfl := Option.some.inj h
    exact AW.ret (hR_0 _ (retX (.cons (.tmp rfl) .nil) (.refl _) rfl (by kernel_rfl) (by kernel_rfl)))
  ·have h := ifF hb_3 h
   refine AW.skip ?_
   refine hK_1 _ ?_
   refine AW.srwK (fun Q_8 hQ_8 => ?_)
   refine RW.au fokW 4 [] ⟨[(1, .d (I part)), (4, .ptr 2 0), (5, .ptr 3 0), (26, .d (.sl 4 (List.map e70 o0B.Parts))), (27, .d (I part))], [(3, .var 92 [.d (I (w 0)), .d (I (w 1)), .d (I (w 2)), .d (I (w 3))]), (0, .var 83 (bkV o0B o0T o0L .opq)), (1, .var 126 [.yld]), (2, .var 127 [.clo 99 [] [.ptr 0 0, .ptr 1 0, .ptr 2 0]])], 4, (fr_ s_), [], 3⟩ (by kernel_rfl) ?_
   obtain ⟨p, hv_9, h⟩ := bsome h
   refine RW.one fokW (r_iaD trivial rfl rfl (ixL_ok hv_9).1 (row := e70 p) (mapget (ixL_ok hv_9).2) (r_end ?_))
   refine RW.au fokW 4 [] ⟨[(1, .d (I part)), (4, .ptr 2 0), (5, .ptr 3 0), (8, .ptr 4 0)], [(4, .var 42 [.d (I p.Weight.Low), .d (I p.Weight.High)]), (3, .var 92 [.d (I (w 0)), .d (I (w 1)), .d (I (w 2)), .d (I (w 3))]), (0, .var 83 (bkV o0B o0T o0L .opq)), (1, .var 126 [.yld]), (2, .var 127 [.clo 99 [] [.ptr 0 0, .ptr 1 0, .ptr 2 0]])], 5, (fr_ s_), [], 3⟩ (by kernel_rfl) ?_
   refine RW.nil ?_
   refine hQ_8 _ ?_
   obtain ⟨c_10, hx_10, hk_10⟩ := bsomeC h
   refine AW.jnK (fun (s_2 : S_) => ⟨[], [(0, .var 83 (bkV o0B o0T o0L .opq)), (1, .var 126 [.yld]), (2, .var 127 [.clo 99 [] [.ptr 0 0, .ptr 1 0, .ptr 2 0]])], 3, (fr_ s_2), [], 3⟩) (c := c_10) (fun K_10 hK_10 => ?_) (fun s_2 hj_10 => ?_)
   ·have h := hx_10
    refine AW.sa fokW [] ⟨[(1, .d (I part)), (4, .ptr 2 0), (5, .ptr 3 0), (8, .ptr 4 0), (36, .d (I (wr ((wr (p.Weight.High - p.Weight.Low)) + 1)))), (37, .d (I 0))], [(4, .var 42 [.d (I p.Weight.Low), .d (I p.Weight.High)]), (3, .var 92 [.d (I (w 0)), .d (I (w 1)), .d (I (w 2)), .d (I (w 3))]), (0, .var 83 (bkV o0B o0T o0L .opq)), (1, .var 126 [.yld]), (2, .var 127 [.clo 99 [] [.ptr 0 0, .ptr 1 0, .ptr 2 0]])], 5, (fr_ s_), [], 3⟩ (by kernel_rfl) ?_
    obtain ⟨c_11, hx_11, hk_11⟩ := bsomeC h
    refine AW.jqK (fun (s_3 : S_) => ⟨[], [(0, .var 83 (bkV o0B o0T o0L .opq)), (1, .var 126 [.yld]), (2, .var 127 [.clo 99 [] [.ptr 0 0, .ptr 1 0, .ptr 2 0]])], 3, (fr_ s_3), [], 3⟩) (c := c_11) (fun K_11 hK_11 => ?_) (fun s_3 hj_11 => ?_)
    ·have h := hx_11
     refine AW.block ?_
     have hN_12 : (wr ((wr (p.Weight.High - p.Weight.Low)) + 1)) ≤ 9223372036854775807 := (wr_range _).2
     obtain ⟨out_12, hx_12, hk_12⟩ := bsomeC h
     refine AW.lpCK (fun (v : Int) (⟨s_4, w1⟩ : S_ × (Nat → Int)) => ⟨[(1, .d (I part)), (4, .ptr 2 0), (5, .ptr 3 0), (8, .ptr 4 0), (36, .d (I (wr ((wr (p.Weight.High - p.Weight.Low)) + 1)))), (37, .d (I v))], [(4, .var 42 [.d (I p.Weight.Low), .d (I p.Weight.High)]), (3, .var 92 [.d (I (w1 0)), .d (I (w1 1)), .d (I (w1 2)), .d (I (w1 3))]), (0, .var 83 (bkV o0B o0T o0L .opq)), (1, .var 126 [.yld]), (2, .var 127 [.clo 99 [] [.ptr 0 0, .ptr 1 0, .ptr 2 0]])], 5, (fr_ s_4), [], 3⟩) (g99_12 (g99 c_ n_) part o0B o0T o0L p) ((wr ((wr (p.Weight.High - p.Weight.Low)) + 1))) hx_12 (Can.kp (by kernel_rfl)) (fun v s_12 hi_12 hl_12 c_12 h hb_12 K_12 hK_12 => ?_) (fun v s_12 hi_12 hl_12 hout => ?_)
     ·obtain ⟨s_4, w1⟩ := s_12
      unfold g99_12 at h
      refine AW.sa fokW [] ⟨[(1, .d (I part)), (4, .ptr 2 0), (5, .ptr 3 0), (8, .ptr 4 0), (36, .d (I (wr ((wr (p.Weight.High - p.Weight.Low)) + 1)))), (37, .d (I v)), (38, .d (.bool (decide (v < (wr ((wr (p.Weight.High - p.Weight.Low)) + 1))))))], [(4, .var 42 [.d (I p.Weight.Low), .d (I p.Weight.High)]), (3, .var 92 [.d (I (w1 0)), .d (I (w1 1)), .d (I (w1 2)), .d (I (w1 3))]), (0, .var 83 (bkV o0B o0T o0L .opq)), (1, .var 126 [.yld]), (2, .var 127 [.clo 99 [] [.ptr 0 0, .ptr 1 0, .ptr 2 0]])], 5, (fr_ s_4), [], 3⟩ (by kernel_rfl) ?_
      refine AW.seqK (fun K_13 hK_13 => ?_)
      refine AW.cond rfl (fun hb_14 => ?_) (fun hb_14 => False.elim (by have := of_decide_eq_false hb_14; omega))
      refine AW.skip ?_
      refine hK_13 _ ?_
      refine AW.seqK (fun K_15 hK_15 => ?_)
      refine AW.block ?_
      refine AW.sa fokW [] ⟨[(1, .d (I part)), (4, .ptr 2 0), (5, .ptr 3 0), (8, .ptr 4 0), (9, .d (I v)), (36, .d (I (wr ((wr (p.Weight.High - p.Weight.Low)) + 1)))), (37, .d (I v))], [(4, .var 42 [.d (I p.Weight.Low), .d (I p.Weight.High)]), (3, .var 92 [.d (I (w1 0)), .d (I (w1 1)), .d (I (w1 2)), .d (I (w1 3))]), (0, .var 83 (bkV o0B o0T o0L .opq)), (1, .var 126 [.yld]), (2, .var 127 [.clo 99 [] [.ptr 0 0, .ptr 1 0, .ptr 2 0]])], 5, (fr_ s_4), [], 3⟩ (by kernel_rfl) ?_
      refine AW.srwK (fun Q_16 hQ_16 => ?_)
      refine RW.au fokW 5 [] ⟨[(1, .d (I part)), (4, .ptr 2 0), (5, .ptr 3 0), (8, .ptr 4 0), (36, .d (I (wr ((wr (p.Weight.High - p.Weight.Low)) + 1)))), (37, .d (I v)), (40, .d (I part)), (44, .d (I (wr (p.Weight.Low + v))))], [(4, .var 42 [.d (I p.Weight.Low), .d (I p.Weight.High)]), (3, .var 92 [.d (I (w1 0)), .d (I (w1 1)), .d (I (w1 2)), .d (I (w1 3))]), (0, .var 83 (bkV o0B o0T o0L .opq)), (1, .var 126 [.yld]), (2, .var 127 [.clo 99 [] [.ptr 0 0, .ptr 1 0, .ptr 2 0]])], 5, (fr_ s_4), [], 3⟩ (by kernel_rfl) ?_
      obtain ⟨j, hv_17, h⟩ := bsome h
      refine RW.one fokW (r_iaV trivial rfl rfl rfl (ixN_ok hv_17).1 (ixN_ok hv_17).2.1 (r_end ?_))
      refine RW.one fokW (r_stX trivial rfl rfl rfl rfl rfl (aslot hv_17 rfl) (cs' := [.d (I ((aset w1 j (wr (p.Weight.Low + v))) 0)), .d (I ((aset w1 j (wr (p.Weight.Low + v))) 1)), .d (I ((aset w1 j (wr (p.Weight.Low + v))) 2)), .d (I ((aset w1 j (wr (p.Weight.Low + v))) 3))]) (ast (w := w1) (c := fun z => .d (I z)) hv_17) (r_end ?_))
      refine RW.nil ?_
      refine hQ_16 _ ?_
      refine AW.srwK (fun Q_18 hQ_18 => ?_)
      refine RW.au fokW 4 [] ⟨[(1, .d (I part)), (4, .ptr 2 0), (5, .ptr 3 0), (8, .ptr 4 0), (36, .d (I (wr ((wr (p.Weight.High - p.Weight.Low)) + 1)))), (37, .d (I v)), (46, .clo 99 [] [.ptr 0 0, .ptr 1 0, .ptr 2 0]), (47, .agg [.d (I ((aset w1 j (wr (p.Weight.Low + v))) 0)), .d (I ((aset w1 j (wr (p.Weight.Low + v))) 1)), .d (I ((aset w1 j (wr (p.Weight.Low + v))) 2)), .d (I ((aset w1 j (wr (p.Weight.Low + v))) 3))]), (49, .d (I (wr (part + 1))))], [(3, .var 92 [.d (I ((aset w1 j (wr (p.Weight.Low + v))) 0)), .d (I ((aset w1 j (wr (p.Weight.Low + v))) 1)), .d (I ((aset w1 j (wr (p.Weight.Low + v))) 2)), .d (I ((aset w1 j (wr (p.Weight.Low + v))) 3))]), (4, .var 42 [.d (I p.Weight.Low), .d (I p.Weight.High)]), (0, .var 83 (bkV o0B o0T o0L .opq)), (1, .var 126 [.yld]), (2, .var 127 [.clo 99 [] [.ptr 0 0, .ptr 1 0, .ptr 2 0]])], 5, (fr_ s_4), [], 3⟩ (by kernel_rfl) ?_
      obtain ⟨⟨r0_5_1, s_8_1⟩, hx_19, h⟩ := bsome h
      refine RW.one fokW (r_callvS (zr := []) [0, 1, 2] trivial rfl (.clo _ _ _) (by kernel_rfl) rfl (ih (aset w1 j (wr (p.Weight.Low + v))) (wr (part + 1)) o0B o0T o0L s_4 _ hx_19) ⟨rfl, rfl, rfl, trivial⟩ rfl rfl ⟨.refl _, .refl _, .refl _, .refl _, .refl _, trivial⟩ rfl rfl rfl (r_end ?_))
      refine RW.au fokW 1 [] ⟨[(1, .d (I part)), (4, .ptr 2 0), (5, .ptr 3 0), (8, .ptr 4 0), (36, .d (I (wr ((wr (p.Weight.High - p.Weight.Low)) + 1)))), (37, .d (I v)), (51, .d (.bool (!r0_5_1)))], [(0, .var 83 (bkV o0B o0T o0L .opq)), (1, .var 126 [.yld]), (2, .var 127 [.clo 99 [] [.ptr 0 0, .ptr 1 0, .ptr 2 0]]), (3, .var 92 [.d (I ((aset w1 j (wr (p.Weight.Low + v))) 0)), .d (I ((aset w1 j (wr (p.Weight.Low + v))) 1)), .d (I ((aset w1 j (wr (p.Weight.Low + v))) 2)), .d (I ((aset w1 j (wr (p.Weight.Low + v))) 3))]), (4, .var 42 [.d (I p.Weight.Low), .d (I p.Weight.High)])], 5, (fr_ s_8_1), [], 3⟩ (by kernel_rfl) ?_
      refine RW.nil ?_
      refine hQ_18 _ ?_
      refine AW.cond rfl (fun hb_20 => ?_) (fun hb_20 => ?_)
      ·have h := ifT hb_20 h
       refine AW.sa fokW [] ⟨[(7, .d (.bool false))], [(0, .var 83 (bkV o0B o0T o0L .opq)), (1, .var 126 [.yld]), (2, .var 127 [.clo 99 [] [.ptr 0 0, .ptr 1 0, .ptr 2 0]])], 5, (fr_ s_8_1), [], 3⟩ (by kernel_rfl) ?_
       obtain rfl := Option.some.inj h
       have e_3 := hb_12 _ rfl
       subst e_3
       obtain rfl := Aft.bk hk_12
       obtain rfl := Aft.bk hk_11
       obtain rfl := Aft.bk hk_10
       exact AW.ret (hR_0 _ (retX (.cons (.tmp rfl) .nil) (.refl _) rfl (by kernel_rfl) (by kernel_rfl)))
      ·have h := ifF hb_20 h
       refine AW.skip ?_
       refine hK_15 _ ?_
       refine AW.ra fokW [] ⟨[(1, .d (I part)), (4, .ptr 2 0), (5, .ptr 3 0), (8, .ptr 4 0), (36, .d (I (wr ((wr (p.Weight.High - p.Weight.Low)) + 1)))), (37, .d (I (wr (v + 1))))], [(0, .var 83 (bkV o0B o0T o0L .opq)), (1, .var 126 [.yld]), (2, .var 127 [.clo 99 [] [.ptr 0 0, .ptr 1 0, .ptr 2 0]]), (3, .var 92 [.d (I ((aset w1 j (wr (p.Weight.Low + v))) 0)), .d (I ((aset w1 j (wr (p.Weight.Low + v))) 1)), .d (I ((aset w1 j (wr (p.Weight.Low + v))) 2)), .d (I ((aset w1 j (wr (p.Weight.Low + v))) 3))]), (4, .var 42 [.d (I p.Weight.Low), .d (I p.Weight.High)])], 5, (fr_ s_8_1), [], 3⟩ (by kernel_rfl) ?_
       obtain rfl := Option.some.inj h
       have ew : wr (v + 1) = v + 1 := inext (N := (wr ((wr (p.Weight.High - p.Weight.Low)) + 1))) (by omega) (by omega) (by omega)
       rw [ew]
       exact hK_12 _ _ rfl (Can.kp (by kernel_rfl))
     ·obtain ⟨s_4, w1⟩ := s_12
      subst hout
      have h := Aft.nx hk_12
      refine AW.sa fokW [] ⟨[(1, .d (I part)), (4, .ptr 2 0), (5, .ptr 3 0), (8, .ptr 4 0), (36, .d (I (wr ((wr (p.Weight.High - p.Weight.Low)) + 1)))), (37, .d (I v)), (38, .d (.bool (decide (v < (wr ((wr (p.Weight.High - p.Weight.Low)) + 1))))))], [(4, .var 42 [.d (I p.Weight.Low), .d (I p.Weight.High)]), (3, .var 92 [.d (I (w1 0)), .d (I (w1 1)), .d (I (w1 2)), .d (I (w1 3))]), (0, .var 83 (bkV o0B o0T o0L .opq)), (1, .var 126 [.yld]), (2, .var 127 [.clo 99 [] [.ptr 0 0, .ptr 1 0, .ptr 2 0]])], 5, (fr_ s_4), [], 3⟩ (by kernel_rfl) ?_
      refine AW.seqK (fun K_21 hK_21 => ?_)
      refine AW.cond rfl (fun hb_22 => False.elim (by have := of_decide_eq_true hb_22; omega)) (fun hb_22 => ?_)
      refine AW.exit ?_
      obtain rfl := Option.some.inj h
      exact hK_11 _ _ rfl (Can.kp (by kernel_rfl))
    ·subst hj_11
     have h := Aft.nx hk_11
     obtain rfl := Option.some.inj h
     exact hK_10 _ _ rfl (Can.kp (by kernel_rfl))
   ·subst hj_10
    have h := Aft.nx hk_10
    refine AW.sa fokW [] ⟨[(7, .d (.bool true))], [(0, .var 83 (bkV o0B o0T o0L .opq)), (1, .var 126 [.yld]), (2, .var 127 [.clo 99 [] [.ptr 0 0, .ptr 1 0, .ptr 2 0]])], 3, (fr_ s_2), [], 3⟩ (by kernel_rfl) ?_
    obtain rfl := Option.some.inj h
    exact AW.ret (hR_0 _ (retX (.cons (.tmp rfl) .nil) (.refl _) rfl (by kernel_rfl) (by kernel_rfl)))
def g98 {S_ : Type} (c_ : (Nat → Int) → S_ → Option (S_ × Bool)) (o0B : StandBook) (o0T : (List (Nat → Int))) (o0L : Stand_load) (s_ : S_) : Option S_ := (g100).bind fun r0 => (g99 c_ 1000 r0 0 o0B o0T o0L s_).bind fun (r0_5, s_8) => some s_8
theorem k98 {S_ : Type} (fr_ : S_ → Fr) (c_ : (Nat → Int) → S_ → Option (S_ × Bool)) (hc_ : ∀ (a0 : (Nat → Int)) s s2 b, c_ a0 s = some (s2, b) → YCall Tryd.prog Gs (fr_ s) [.agg [.d (I (a0 0)), .d (I (a0 1)), .d (I (a0 2)), .d (I (a0 3))]] (.d (.bool b)) (fr_ s2)) (o0B : StandBook) (o0T : (List (Nat → Int))) (o0L : Stand_load) (s_ : S_) (r : S_) (h : g98 c_ o0B o0T o0L s_ = some r) : SCall Tryd.prog Gs 98 [.yld, .ptr 0 0] [(0, .var 83 (bkV o0B o0T o0L .opq))] 1 (fr_ s_) (.tup []) [(0, .var 83 (bkV o0B o0T o0L .opq))] 1 (fr_ r) := by
 unfold g98 at h
 refine SCall.mkK Tryd.func98 c98 rfl rfl (by kernel_rfl) (fun Q_0 hR_0 hN_0 => ?_)
 refine AW.sa fokW [] ⟨[(1, .ptr 0 0), (2, .ptr 1 0)], [(1, .var 126 [.yld]), (0, .var 83 (bkV o0B o0T o0L .opq))], 2, (fr_ s_), [], 1⟩ (by kernel_rfl) ?_
 refine AW.sa fokW [] ⟨[(1, .ptr 0 0), (2, .ptr 1 0), (3, .ptr 2 0)], [(2, .var 127 [.d (.nilFn)]), (1, .var 126 [.yld]), (0, .var 83 (bkV o0B o0T o0L .opq))], 3, (fr_ s_), [], 1⟩ (by kernel_rfl) ?_
 refine AW.sa fokW [] ⟨[(3, .ptr 2 0)], [(2, .var 127 [.clo 99 [] [.ptr 0 0, .ptr 1 0, .ptr 2 0]]), (1, .var 126 [.yld]), (0, .var 83 (bkV o0B o0T o0L .opq))], 3, (fr_ s_), [], 1⟩ (by kernel_rfl) ?_
 refine AW.drw fokW ?_
 refine RunC.auX 1 ⟨[(5, .clo 99 [] [.ptr 0 0, .ptr 1 0, .ptr 2 0])], [(2, .var 127 [.clo 99 [] [.ptr 0 0, .ptr 1 0, .ptr 2 0]]), (1, .var 126 [.yld]), (0, .var 83 (bkV o0B o0T o0L .opq))], 3, (fr_ s_), [], 1⟩ (by kernel_rfl) ?_
 obtain ⟨r0, hx_2, h⟩ := bsome h
 refine r_call trivial rfl (k100 _ hx_2) rfl rfl ?_
 obtain ⟨⟨r0_5, s_8⟩, hx_3, h⟩ := bsome h
 refine r_callvS (zr := []) [0, 1, 2] trivial rfl (.clo _ _ _) (by kernel_rfl) rfl (k99 fr_ c_ hc_ 1000 r0 0 o0B o0T o0L s_ _ hx_3) ⟨rfl, rfl, rfl, trivial⟩ rfl rfl ⟨.refl _, .refl _, .refl _, .refl _, .refl _, trivial⟩ rfl rfl rfl ?_
 refine RunC.fin ⟨[], [(0, .var 83 (bkV o0B o0T o0L .opq))], 3, (fr_ s_8), [], 1⟩ (by kernel_rfl) (by kernel_rfl) ?_
 obtain rfl := Option.some.inj h
 exact hN_0 _ (retX .nil (.refl _) rfl (by kernel_rfl) (by kernel_rfl))
def g104_3 (v : Int) : Int → Int → Unit → Option (Ctl (Unit) (Int)) := fun v1 p _ => bif (decide (v = p)) then (some (.brk v1)) else (some (.next ()))
def g104 (s : (List Int)) (v : Int) : Option Int := bindC (eachC (g104_3 v) s 0 ()) fun _ => some (-1)
theorem k104 (s : (List Int)) (v : Int) (r : Int) (h : g104 s v = some r) : SCall Tryd.prog Gs 104 [.d (.sl 1 (List.map e3 s)), .d (I v)] [] 0 Fr.emp (.d (I r)) [] 0 Fr.emp := by
 unfold g104 at h
 refine SCall.mkK Tryd.func104 c104 rfl rfl (by kernel_rfl) (fun Q_0 hR_0 hN_0 => ?_)
 refine AW.sa fokW [] ⟨[(0, .d (.sl 1 (List.map e3 s))), (1, .d (I v))], [], 0, Fr.emp, [], 0⟩ (by kernel_rfl) ?_
 refine AW.seqK (fun K_1 hK_1 => ?_)
 refine AW.srwK (fun Q_2 hQ_2 => ?_)
 refine RW.au fokW 1 [] ⟨[(0, .d (.sl 1 (List.map e3 s))), (1, .d (I v)), (6, .d (.sl 1 (List.map e3 s)))], [], 0, Fr.emp, [], 0⟩ (by kernel_rfl) ?_
 refine RW.one fokW (r_lenX trivial rfl lenm (r_end ?_))
 refine RW.au fokW 1 [] ⟨[(0, .d (.sl 1 (List.map e3 s))), (1, .d (I v)), (7, .d (I (s.length : Int))), (8, .d (I 0))], [], 0, Fr.emp, [], 0⟩ (by kernel_rfl) ?_
 refine RW.nil ?_
 refine hQ_2 _ ?_
 refine AW.block ?_
 refine AW.sln (t := 0) rfl (fun hN_3 => ?_)
 rw [List.length_map] at hN_3
 obtain ⟨out_3, hx_3, hk_3⟩ := bsomeC h
 refine AW.evCK (fun (v1 : Int) (_ : Unit) => ⟨[(0, .d (.sl 1 (List.map e3 s))), (1, .d (I v)), (7, .d (I (s.length : Int))), (8, .d (I v1))], [], 0, Fr.emp, [], 0⟩) (g104_3 v) hx_3 (Can.kp (by kernel_rfl)) (fun v1 p s_3 hi_3 hl_3 hp_3 c_3 h hb_3 K_3 hK_3 => ?_) (fun v1 s_3 hi_3 hl_3 hout => ?_)
 ·unfold g104_3 at h
  refine AW.sa fokW [] ⟨[(0, .d (.sl 1 (List.map e3 s))), (1, .d (I v)), (7, .d (I (s.length : Int))), (8, .d (I v1)), (9, .d (.bool (decide (v1 < (s.length : Int)))))], [], 0, Fr.emp, [], 0⟩ (by kernel_rfl) ?_
  refine AW.seqK (fun K_4 hK_4 => ?_)
  refine AW.cond rfl (fun hb_5 => ?_) (fun hb_5 => False.elim (by have := of_decide_eq_false hb_5; omega))
  refine AW.skip ?_
  refine hK_4 _ ?_
  refine AW.seqK (fun K_6 hK_6 => ?_)
  refine AW.block ?_
  refine AW.sa fokW [] ⟨[(0, .d (.sl 1 (List.map e3 s))), (1, .d (I v)), (5, .d (I v1)), (7, .d (I (s.length : Int))), (8, .d (I v1))], [], 0, Fr.emp, [], 0⟩ (by kernel_rfl) ?_
  refine AW.srwK (fun Q_7 hQ_7 => ?_)
  refine RW.au fokW 3 [] ⟨[(0, .d (.sl 1 (List.map e3 s))), (1, .d (I v)), (5, .d (I v1)), (7, .d (I (s.length : Int))), (8, .d (I v1)), (11, .d (I v)), (12, .d (.sl 1 (List.map e3 s))), (13, .d (I v1))], [], 0, Fr.emp, [], 0⟩ (by kernel_rfl) ?_
  refine RW.one fokW (r_iaD trivial rfl rfl hi_3 (row := e3 p) (mapget hp_3) (r_end ?_))
  refine RW.au fokW 2 [] ⟨[(0, .d (.sl 1 (List.map e3 s))), (1, .d (I v)), (5, .d (I v1)), (7, .d (I (s.length : Int))), (8, .d (I v1)), (16, .d (.bool (decide (v = p))))], [], 0, Fr.emp, [], 0⟩ (by kernel_rfl) ?_
  refine RW.nil ?_
  refine hQ_7 _ ?_
  refine AW.cond rfl (fun hb_8 => ?_) (fun hb_8 => ?_)
  ·have h := ifT hb_8 h
   refine AW.sa fokW [] ⟨[(4, .d (I v1))], [], 0, Fr.emp, [], 0⟩ (by kernel_rfl) ?_
   obtain rfl := Option.some.inj h
   have e_1 := hb_3 _ rfl
   subst e_1
   obtain rfl := Aft.bk hk_3
   exact AW.ret (hR_0 _ (retX (.cons (.tmp rfl) .nil) (.refl _) rfl (by kernel_rfl) (by kernel_rfl)))
  ·have h := ifF hb_8 h
   refine AW.skip ?_
   refine hK_6 _ ?_
   refine AW.ra fokW [] ⟨[(0, .d (.sl 1 (List.map e3 s))), (1, .d (I v)), (7, .d (I (s.length : Int))), (8, .d (I (wr (v1 + 1))))], [], 0, Fr.emp, [], 0⟩ (by kernel_rfl) ?_
   obtain rfl := Option.some.inj h
   have ew : wr (v1 + 1) = v1 + 1 := inext (N := (s.length : Int)) (by omega) (by omega) (by omega)
   rw [ew]
   exact hK_3 _ _ rfl (Can.kp (by kernel_rfl))
 ·subst hout
  have h := Aft.nx hk_3
  refine AW.sa fokW [] ⟨[(0, .d (.sl 1 (List.map e3 s))), (1, .d (I v)), (7, .d (I (s.length : Int))), (8, .d (I v1)), (9, .d (.bool (decide (v1 < (s.length : Int)))))], [], 0, Fr.emp, [], 0⟩ (by kernel_rfl) ?_
  refine AW.seqK (fun K_9 hK_9 => ?_)
  refine AW.cond rfl (fun hb_10 => False.elim (by have := of_decide_eq_true hb_10; omega)) (fun hb_10 => ?_)
  refine AW.exit ?_
  refine hK_1 _ ?_
  refine AW.sa fokW [] ⟨[(4, .d (I (-1)))], [], 0, Fr.emp, [], 0⟩ (by kernel_rfl) ?_
  obtain rfl := Option.some.inj h
  exact AW.ret (hR_0 _ (retX (.cons (.tmp rfl) .nil) (.refl _) rfl (by kernel_rfl) (by kernel_rfl)))
def g101 (s : (List Int)) (v : Int) : Option Bool := (g104 s v).bind fun r0_1 => some (decide (0 ≤ r0_1))
theorem k101 (s : (List Int)) (v : Int) (r : Bool) (h : g101 s v = some r) : SCall Tryd.prog Gs 101 [.d (.sl 1 (List.map e3 s)), .d (I v)] [] 0 Fr.emp (.d (.bool r)) [] 0 Fr.emp := by
 unfold g101 at h
 refine SCall.mkK Tryd.func101 c101 rfl rfl (by kernel_rfl) (fun Q_0 hR_0 hN_0 => ?_)
 refine AW.sa fokW [] ⟨[(0, .d (.sl 1 (List.map e3 s))), (1, .d (I v))], [], 0, Fr.emp, [], 0⟩ (by kernel_rfl) ?_
 refine AW.srwK (fun Q_1 hQ_1 => ?_)
 refine RW.au fokW 2 [] ⟨[(5, .d (.sl 1 (List.map e3 s))), (6, .d (I v))], [], 0, Fr.emp, [], 0⟩ (by kernel_rfl) ?_
 obtain ⟨r0_1, hx_2, h⟩ := bsome h
 refine RW.one fokW (r_call trivial rfl (k104 s v _ hx_2) rfl rfl (r_end ?_))
 refine RW.au fokW 2 [] ⟨[(4, .d (.bool (decide (0 ≤ r0_1))))], [], 0, Fr.emp, [], 0⟩ (by kernel_rfl) ?_
 refine RW.nil ?_
 refine hQ_1 _ ?_
 obtain rfl := Option.some.inj h
 exact AW.ret (hR_0 _ (retX (.cons (.tmp rfl) .nil) (.refl _) rfl (by kernel_rfl) (by kernel_rfl)))
def g95_3 (w : (Nat → Int)) : Int → StandPart → (Int × Int × Int) → Option (Int × Int × Int) := fun v p (weight, along, high) => (ixN 4 v).bind fun j => (ixN 4 v).bind fun j1 => (ixN 4 v).bind fun j2 => some ((wr (weight + (w j))), (wr (along + (wr ((w j1) * p.Along)))), (wr (high + (wr ((w j2) * p.High)))))
def g95 (bB : StandBook) (bT : (List (Nat → Int))) (bL : Stand_load) (w : (Nat → Int)) (c : Stand_child) : Option Stand_load := (eachS (g95_3 w) bB.Parts 0 ((wr (bL.weight + c.weight)), (wr (bL.along + (wr (c.weight * (wr (bB.Along + c.lean)))))), (wr (bL.high + (wr (c.weight * bB.High)))))).bind fun (weight, along, high) => some (Stand_load.mk weight along high)
theorem k95 (bB : StandBook) (bT : (List (Nat → Int))) (bL : Stand_load) (w : (Nat → Int)) (c : Stand_child) (r : Stand_load) (h : g95 bB bT bL w c = some r) : SCall Tryd.prog Gs 95 [.agg [.d (I bB.Kind), .d (I bB.Front), .d (I bB.Back), .d (I bB.Radius), .d (.sl 4 (List.map e70 bB.Parts)), .d (I bB.Along), .d (I bB.High), .d (I bB.Lean_), .d (I bB.Limit), .d (.sl 3 (List.map e65 bB.Trials)), .d (.sl 4 (List.map e92 bT)), .d (I bL.weight), .d (I bL.along), .d (I bL.high), .opq], .agg [.d (I (w 0)), .d (I (w 1)), .d (I (w 2)), .d (I (w 3))], .agg [.d (I c.weight), .d (I c.lean)]] [] 0 Fr.emp (.agg [.d (I r.weight), .d (I r.along), .d (I r.high)]) [] 0 Fr.emp := by
 unfold g95 at h
 refine SCall.mkK Tryd.func95 c95 rfl rfl (by kernel_rfl) (fun Q_0 hR_0 hN_0 => ?_)
 refine AW.sa fokW [] ⟨[(3, .ptr 0 0), (4, .ptr 1 0), (5, .ptr 2 0), (6, .ptr 3 0)], [(3, .var 80 [.d (I 0), .d (I 0), .d (I 0)]), (2, .var 94 [.d (I c.weight), .d (I c.lean)]), (1, .var 92 [.d (I (w 0)), .d (I (w 1)), .d (I (w 2)), .d (I (w 3))]), (0, .var 83 (bkV bB bT bL .opq))], 4, Fr.emp, [], 0⟩ (by kernel_rfl) ?_
 refine AW.sa fokW [] ⟨[(3, .ptr 0 0), (4, .ptr 1 0), (5, .ptr 2 0), (6, .ptr 3 0), (7, .ptr 4 0)], [(4, .var 80 [.d (I bL.weight), .d (I bL.along), .d (I bL.high)]), (3, .var 80 [.d (I 0), .d (I 0), .d (I 0)]), (2, .var 94 [.d (I c.weight), .d (I c.lean)]), (1, .var 92 [.d (I (w 0)), .d (I (w 1)), .d (I (w 2)), .d (I (w 3))]), (0, .var 83 (bkV bB bT bL .opq))], 5, Fr.emp, [], 0⟩ (by kernel_rfl) ?_
 refine AW.sa fokW [] ⟨[(3, .ptr 0 0), (4, .ptr 1 0), (5, .ptr 2 0), (6, .ptr 3 0), (7, .ptr 4 0)], [(4, .var 80 [.d (I (wr (bL.weight + c.weight))), .d (I bL.along), .d (I bL.high)]), (3, .var 80 [.d (I 0), .d (I 0), .d (I 0)]), (2, .var 94 [.d (I c.weight), .d (I c.lean)]), (1, .var 92 [.d (I (w 0)), .d (I (w 1)), .d (I (w 2)), .d (I (w 3))]), (0, .var 83 (bkV bB bT bL .opq))], 5, Fr.emp, [], 0⟩ (by kernel_rfl) ?_
 refine AW.sa fokW [] ⟨[(3, .ptr 0 0), (4, .ptr 1 0), (5, .ptr 2 0), (6, .ptr 3 0), (7, .ptr 4 0)], [(4, .var 80 [.d (I (wr (bL.weight + c.weight))), .d (I (wr (bL.along + (wr (c.weight * (wr (bB.Along + c.lean))))))), .d (I bL.high)]), (3, .var 80 [.d (I 0), .d (I 0), .d (I 0)]), (2, .var 94 [.d (I c.weight), .d (I c.lean)]), (1, .var 92 [.d (I (w 0)), .d (I (w 1)), .d (I (w 2)), .d (I (w 3))]), (0, .var 83 (bkV bB bT bL .opq))], 5, Fr.emp, [], 0⟩ (by kernel_rfl) ?_
 refine AW.sa fokW [] ⟨[(3, .ptr 0 0), (4, .ptr 1 0), (6, .ptr 3 0), (7, .ptr 4 0)], [(4, .var 80 [.d (I (wr (bL.weight + c.weight))), .d (I (wr (bL.along + (wr (c.weight * (wr (bB.Along + c.lean))))))), .d (I (wr (bL.high + (wr (c.weight * bB.High)))))]), (3, .var 80 [.d (I 0), .d (I 0), .d (I 0)]), (1, .var 92 [.d (I (w 0)), .d (I (w 1)), .d (I (w 2)), .d (I (w 3))]), (0, .var 83 (bkV bB bT bL .opq))], 5, Fr.emp, [], 0⟩ (by kernel_rfl) ?_
 refine AW.seqK (fun K_1 hK_1 => ?_)
 refine AW.srwK (fun Q_2 hQ_2 => ?_)
 refine RW.au fokW 3 [] ⟨[(4, .ptr 1 0), (6, .ptr 3 0), (7, .ptr 4 0), (43, .d (.sl 4 (List.map e70 bB.Parts)))], [(4, .var 80 [.d (I (wr (bL.weight + c.weight))), .d (I (wr (bL.along + (wr (c.weight * (wr (bB.Along + c.lean))))))), .d (I (wr (bL.high + (wr (c.weight * bB.High)))))]), (3, .var 80 [.d (I 0), .d (I 0), .d (I 0)]), (1, .var 92 [.d (I (w 0)), .d (I (w 1)), .d (I (w 2)), .d (I (w 3))])], 5, Fr.emp, [], 0⟩ (by kernel_rfl) ?_
 refine RW.one fokW (r_lenX trivial rfl lenm (r_end ?_))
 refine RW.au fokW 1 [] ⟨[(4, .ptr 1 0), (6, .ptr 3 0), (7, .ptr 4 0), (43, .d (.sl 4 (List.map e70 bB.Parts))), (44, .d (I (bB.Parts.length : Int))), (45, .d (I 0))], [(4, .var 80 [.d (I (wr (bL.weight + c.weight))), .d (I (wr (bL.along + (wr (c.weight * (wr (bB.Along + c.lean))))))), .d (I (wr (bL.high + (wr (c.weight * bB.High)))))]), (3, .var 80 [.d (I 0), .d (I 0), .d (I 0)]), (1, .var 92 [.d (I (w 0)), .d (I (w 1)), .d (I (w 2)), .d (I (w 3))])], 5, Fr.emp, [], 0⟩ (by kernel_rfl) ?_
 refine RW.nil ?_
 refine hQ_2 _ ?_
 refine AW.block ?_
 refine AW.sln (t := 43) rfl (fun hN_3 => ?_)
 rw [List.length_map] at hN_3
 obtain ⟨out_3, hx_3, h⟩ := bsome h
 refine AW.evSK (fun (v : Int) (⟨weight, along, high⟩ : Int × Int × Int) => ⟨[(4, .ptr 1 0), (6, .ptr 3 0), (7, .ptr 4 0), (43, .d (.sl 4 (List.map e70 bB.Parts))), (44, .d (I (bB.Parts.length : Int))), (45, .d (I v))], [(4, .var 80 [.d (I weight), .d (I along), .d (I high)]), (3, .var 80 [.d (I 0), .d (I 0), .d (I 0)]), (1, .var 92 [.d (I (w 0)), .d (I (w 1)), .d (I (w 2)), .d (I (w 3))])], 5, Fr.emp, [], 0⟩) (g95_3 w) hx_3 (Can.kp (by kernel_rfl)) (fun v p s_3 hi_3 hl_3 hp_3 c_3 h K_3 hK_3 => ?_) (fun v s_3 hi_3 hl_3 hout => ?_)
 ·obtain ⟨weight, along, high⟩ := s_3
  unfold g95_3 at h
  refine AW.sa fokW [] ⟨[(4, .ptr 1 0), (6, .ptr 3 0), (7, .ptr 4 0), (43, .d (.sl 4 (List.map e70 bB.Parts))), (44, .d (I (bB.Parts.length : Int))), (45, .d (I v)), (46, .d (.bool (decide (v < (bB.Parts.length : Int)))))], [(4, .var 80 [.d (I weight), .d (I along), .d (I high)]), (3, .var 80 [.d (I 0), .d (I 0), .d (I 0)]), (1, .var 92 [.d (I (w 0)), .d (I (w 1)), .d (I (w 2)), .d (I (w 3))])], 5, Fr.emp, [], 0⟩ (by kernel_rfl) ?_
  refine AW.seqK (fun K_4 hK_4 => ?_)
  refine AW.cond rfl (fun hb_5 => ?_) (fun hb_5 => False.elim (by have := of_decide_eq_false hb_5; omega))
  refine AW.skip ?_
  refine hK_4 _ ?_
  refine AW.seqK (fun K_6 hK_6 => ?_)
  refine AW.block ?_
  refine AW.srwK (fun Q_7 hQ_7 => ?_)
  refine RW.au fokW 1 [] ⟨[(4, .ptr 1 0), (6, .ptr 3 0), (7, .ptr 4 0), (43, .d (.sl 4 (List.map e70 bB.Parts))), (44, .d (I (bB.Parts.length : Int))), (45, .d (I v)), (47, .d (I v))], [(4, .var 80 [.d (I weight), .d (I along), .d (I high)]), (3, .var 80 [.d (I 0), .d (I 0), .d (I 0)]), (1, .var 92 [.d (I (w 0)), .d (I (w 1)), .d (I (w 2)), .d (I (w 3))])], 5, Fr.emp, [], 0⟩ (by kernel_rfl) ?_
  refine RW.one fokW (r_iaD trivial rfl rfl hi_3 (row := e70 p) (mapget hp_3) (r_end ?_))
  refine RW.au fokW 4 [] ⟨[(4, .ptr 1 0), (6, .ptr 3 0), (7, .ptr 4 0), (8, .d (I v)), (9, .ptr 5 0), (43, .d (.sl 4 (List.map e70 bB.Parts))), (44, .d (I (bB.Parts.length : Int))), (45, .d (I v))], [(5, .var 70 (cv70 p)), (4, .var 80 [.d (I weight), .d (I along), .d (I high)]), (3, .var 80 [.d (I 0), .d (I 0), .d (I 0)]), (1, .var 92 [.d (I (w 0)), .d (I (w 1)), .d (I (w 2)), .d (I (w 3))])], 6, Fr.emp, [], 0⟩ (by kernel_rfl) ?_
  refine RW.nil ?_
  refine hQ_7 _ ?_
  refine AW.sdrwK fokW (fun Q_8 hQ_8 => ?_)
  refine RunC.auX 3 ⟨[(4, .ptr 1 0), (6, .ptr 3 0), (7, .ptr 4 0), (8, .d (I v)), (9, .ptr 5 0), (43, .d (.sl 4 (List.map e70 bB.Parts))), (44, .d (I (bB.Parts.length : Int))), (45, .d (I v)), (51, .d (I weight)), (52, .d (I v))], [(5, .var 70 (cv70 p)), (4, .var 80 [.d (I weight), .d (I along), .d (I high)]), (3, .var 80 [.d (I 0), .d (I 0), .d (I 0)]), (1, .var 92 [.d (I (w 0)), .d (I (w 1)), .d (I (w 2)), .d (I (w 3))])], 6, Fr.emp, [], 0⟩ (by kernel_rfl) ?_
  obtain ⟨j, hv_9, h⟩ := bsome h
  refine r_iaV trivial rfl rfl rfl (ixN_ok hv_9).1 (ixN_ok hv_9).2.1 ?_
  refine r_loadV trivial rfl rfl (u := .d (I (w j))) (agt (f := fun k => .d (I (w k))) hv_9) ?_
  refine RunC.auX 3 ⟨[(4, .ptr 1 0), (6, .ptr 3 0), (7, .ptr 4 0), (8, .d (I v)), (9, .ptr 5 0), (43, .d (.sl 4 (List.map e70 bB.Parts))), (44, .d (I (bB.Parts.length : Int))), (45, .d (I v))], [(4, .var 80 [.d (I (wr (weight + (w j)))), .d (I along), .d (I high)]), (5, .var 70 (cv70 p)), (3, .var 80 [.d (I 0), .d (I 0), .d (I 0)]), (1, .var 92 [.d (I (w 0)), .d (I (w 1)), .d (I (w 2)), .d (I (w 3))])], 6, Fr.emp, [], 0⟩ (by kernel_rfl) ?_
  refine RunC.fin ⟨[(4, .ptr 1 0), (6, .ptr 3 0), (7, .ptr 4 0), (8, .d (I v)), (9, .ptr 5 0), (43, .d (.sl 4 (List.map e70 bB.Parts))), (44, .d (I (bB.Parts.length : Int))), (45, .d (I v))], [(4, .var 80 [.d (I (wr (weight + (w j)))), .d (I along), .d (I high)]), (5, .var 70 (cv70 p)), (3, .var 80 [.d (I 0), .d (I 0), .d (I 0)]), (1, .var 92 [.d (I (w 0)), .d (I (w 1)), .d (I (w 2)), .d (I (w 3))])], 6, Fr.emp, [], 0⟩ (by kernel_rfl) (by kernel_rfl) ?_
  refine hQ_8 _ ?_
  refine AW.sdrwK fokW (fun Q_10 hQ_10 => ?_)
  refine RunC.auX 3 ⟨[(4, .ptr 1 0), (6, .ptr 3 0), (7, .ptr 4 0), (8, .d (I v)), (9, .ptr 5 0), (43, .d (.sl 4 (List.map e70 bB.Parts))), (44, .d (I (bB.Parts.length : Int))), (45, .d (I v)), (58, .d (I along)), (59, .d (I v))], [(4, .var 80 [.d (I (wr (weight + (w j)))), .d (I along), .d (I high)]), (5, .var 70 (cv70 p)), (3, .var 80 [.d (I 0), .d (I 0), .d (I 0)]), (1, .var 92 [.d (I (w 0)), .d (I (w 1)), .d (I (w 2)), .d (I (w 3))])], 6, Fr.emp, [], 0⟩ (by kernel_rfl) ?_
  obtain ⟨j1, hv_11, h⟩ := bsome h
  refine r_iaV trivial rfl rfl rfl (ixN_ok hv_11).1 (ixN_ok hv_11).2.1 ?_
  refine r_loadV trivial rfl rfl (u := .d (I (w j1))) (agt (f := fun k => .d (I (w k))) hv_11) ?_
  refine RunC.auX 6 ⟨[(4, .ptr 1 0), (6, .ptr 3 0), (7, .ptr 4 0), (8, .d (I v)), (9, .ptr 5 0), (43, .d (.sl 4 (List.map e70 bB.Parts))), (44, .d (I (bB.Parts.length : Int))), (45, .d (I v))], [(4, .var 80 [.d (I (wr (weight + (w j)))), .d (I (wr (along + (wr ((w j1) * p.Along))))), .d (I high)]), (5, .var 70 (cv70 p)), (3, .var 80 [.d (I 0), .d (I 0), .d (I 0)]), (1, .var 92 [.d (I (w 0)), .d (I (w 1)), .d (I (w 2)), .d (I (w 3))])], 6, Fr.emp, [], 0⟩ (by kernel_rfl) ?_
  refine RunC.fin ⟨[(4, .ptr 1 0), (6, .ptr 3 0), (7, .ptr 4 0), (8, .d (I v)), (9, .ptr 5 0), (43, .d (.sl 4 (List.map e70 bB.Parts))), (44, .d (I (bB.Parts.length : Int))), (45, .d (I v))], [(4, .var 80 [.d (I (wr (weight + (w j)))), .d (I (wr (along + (wr ((w j1) * p.Along))))), .d (I high)]), (5, .var 70 (cv70 p)), (3, .var 80 [.d (I 0), .d (I 0), .d (I 0)]), (1, .var 92 [.d (I (w 0)), .d (I (w 1)), .d (I (w 2)), .d (I (w 3))])], 6, Fr.emp, [], 0⟩ (by kernel_rfl) (by kernel_rfl) ?_
  refine hQ_10 _ ?_
  refine AW.drw fokW ?_
  refine RunC.auX 3 ⟨[(4, .ptr 1 0), (6, .ptr 3 0), (7, .ptr 4 0), (9, .ptr 5 0), (43, .d (.sl 4 (List.map e70 bB.Parts))), (44, .d (I (bB.Parts.length : Int))), (45, .d (I v)), (68, .d (I high)), (69, .d (I v))], [(4, .var 80 [.d (I (wr (weight + (w j)))), .d (I (wr (along + (wr ((w j1) * p.Along))))), .d (I high)]), (5, .var 70 (cv70 p)), (3, .var 80 [.d (I 0), .d (I 0), .d (I 0)]), (1, .var 92 [.d (I (w 0)), .d (I (w 1)), .d (I (w 2)), .d (I (w 3))])], 6, Fr.emp, [], 0⟩ (by kernel_rfl) ?_
  obtain ⟨j2, hv_13, h⟩ := bsome h
  refine r_iaV trivial rfl rfl rfl (ixN_ok hv_13).1 (ixN_ok hv_13).2.1 ?_
  refine r_loadV trivial rfl rfl (u := .d (I (w j2))) (agt (f := fun k => .d (I (w k))) hv_13) ?_
  refine RunC.auX 6 ⟨[(4, .ptr 1 0), (6, .ptr 3 0), (7, .ptr 4 0), (43, .d (.sl 4 (List.map e70 bB.Parts))), (44, .d (I (bB.Parts.length : Int))), (45, .d (I v))], [(4, .var 80 [.d (I (wr (weight + (w j)))), .d (I (wr (along + (wr ((w j1) * p.Along))))), .d (I (wr (high + (wr ((w j2) * p.High)))))]), (5, .var 70 (cv70 p)), (3, .var 80 [.d (I 0), .d (I 0), .d (I 0)]), (1, .var 92 [.d (I (w 0)), .d (I (w 1)), .d (I (w 2)), .d (I (w 3))])], 6, Fr.emp, [], 0⟩ (by kernel_rfl) ?_
  refine RunC.fin ⟨[(4, .ptr 1 0), (6, .ptr 3 0), (7, .ptr 4 0), (43, .d (.sl 4 (List.map e70 bB.Parts))), (44, .d (I (bB.Parts.length : Int))), (45, .d (I v))], [(4, .var 80 [.d (I (wr (weight + (w j)))), .d (I (wr (along + (wr ((w j1) * p.Along))))), .d (I (wr (high + (wr ((w j2) * p.High)))))]), (3, .var 80 [.d (I 0), .d (I 0), .d (I 0)]), (1, .var 92 [.d (I (w 0)), .d (I (w 1)), .d (I (w 2)), .d (I (w 3))])], 6, Fr.emp, [], 0⟩ (by kernel_rfl) (by kernel_rfl) ?_
  refine hK_6 _ ?_
  refine AW.ra fokW [] ⟨[(4, .ptr 1 0), (6, .ptr 3 0), (7, .ptr 4 0), (43, .d (.sl 4 (List.map e70 bB.Parts))), (44, .d (I (bB.Parts.length : Int))), (45, .d (I (wr (v + 1))))], [(4, .var 80 [.d (I (wr (weight + (w j)))), .d (I (wr (along + (wr ((w j1) * p.Along))))), .d (I (wr (high + (wr ((w j2) * p.High)))))]), (3, .var 80 [.d (I 0), .d (I 0), .d (I 0)]), (1, .var 92 [.d (I (w 0)), .d (I (w 1)), .d (I (w 2)), .d (I (w 3))])], 6, Fr.emp, [], 0⟩ (by kernel_rfl) ?_
  obtain rfl := Option.some.inj h
  have ew : wr (v + 1) = v + 1 := inext (N := (bB.Parts.length : Int)) (by omega) (by omega) (by omega)
  rw [ew]
  exact hK_3 _ (Can.kp (by kernel_rfl))
 ·obtain ⟨weight, along, high⟩ := s_3
  subst hout
  refine AW.sa fokW [] ⟨[(4, .ptr 1 0), (6, .ptr 3 0), (7, .ptr 4 0), (43, .d (.sl 4 (List.map e70 bB.Parts))), (44, .d (I (bB.Parts.length : Int))), (45, .d (I v)), (46, .d (.bool (decide (v < (bB.Parts.length : Int)))))], [(4, .var 80 [.d (I weight), .d (I along), .d (I high)]), (3, .var 80 [.d (I 0), .d (I 0), .d (I 0)]), (1, .var 92 [.d (I (w 0)), .d (I (w 1)), .d (I (w 2)), .d (I (w 3))])], 5, Fr.emp, [], 0⟩ (by kernel_rfl) ?_
  refine AW.seqK (fun K_14 hK_14 => ?_)
  refine AW.cond rfl (fun hb_15 => False.elim (by have := of_decide_eq_true hb_15; omega)) (fun hb_15 => ?_)
  refine AW.exit ?_
  refine hK_1 _ ?_
  refine AW.sa fokW [] ⟨[(6, .ptr 3 0)], [(3, .var 80 [.d (I weight), .d (I along), .d (I high)])], 5, Fr.emp, [], 0⟩ (by kernel_rfl) ?_
  obtain rfl := Option.some.inj h
  exact AW.ret (hR_0 _ (retX (.cons (.agg rfl rfl (Nat.le_of_ble_eq_true rfl)) .nil) (.refl _) rfl (by kernel_rfl) (by kernel_rfl)))
def g123_3 : Int → Int → Int → Option Int := fun v p first1 => some (min first1 p)
def g123 (first : Int) (l : (List Int)) : Option Int := (eachS g123_3 l 0 first).bind fun first1 => some first1
theorem k123 (first : Int) (l : (List Int)) (r : Int) (h : g123 first l = some r) : SCall Tryd.prog Gs 123 [.d (I first), .d (.sl 1 (List.map e3 l))] [] 0 Fr.emp (.d (I r)) [] 0 Fr.emp := by
 unfold g123 at h
 refine SCall.mkK Tryd.func123 c123 rfl rfl (by kernel_rfl) (fun Q_0 hR_0 hN_0 => ?_)
 refine AW.sa fokW [] ⟨[(0, .d (I first)), (1, .d (.sl 1 (List.map e3 l)))], [], 0, Fr.emp, [], 0⟩ (by kernel_rfl) ?_
 refine AW.seqK (fun K_1 hK_1 => ?_)
 refine AW.srwK (fun Q_2 hQ_2 => ?_)
 refine RW.au fokW 1 [] ⟨[(0, .d (I first)), (7, .d (.sl 1 (List.map e3 l)))], [], 0, Fr.emp, [], 0⟩ (by kernel_rfl) ?_
 refine RW.one fokW (r_lenX trivial rfl lenm (r_end ?_))
 refine RW.au fokW 1 [] ⟨[(0, .d (I first)), (7, .d (.sl 1 (List.map e3 l))), (8, .d (I (l.length : Int))), (9, .d (I 0))], [], 0, Fr.emp, [], 0⟩ (by kernel_rfl) ?_
 refine RW.nil ?_
 refine hQ_2 _ ?_
 refine AW.block ?_
 refine AW.sln (t := 7) rfl (fun hN_3 => ?_)
 rw [List.length_map] at hN_3
 obtain ⟨out_3, hx_3, h⟩ := bsome h
 refine AW.evSK (fun (v : Int) (first1 : Int) => ⟨[(0, .d (I first1)), (7, .d (.sl 1 (List.map e3 l))), (8, .d (I (l.length : Int))), (9, .d (I v))], [], 0, Fr.emp, [], 0⟩) g123_3 hx_3 (Can.kp (by kernel_rfl)) (fun v p first1 hi_3 hl_3 hp_3 c_3 h K_3 hK_3 => ?_) (fun v first1 hi_3 hl_3 hout => ?_)
 ·unfold g123_3 at h
  refine AW.sa fokW [] ⟨[(0, .d (I first1)), (7, .d (.sl 1 (List.map e3 l))), (8, .d (I (l.length : Int))), (9, .d (I v)), (10, .d (.bool (decide (v < (l.length : Int)))))], [], 0, Fr.emp, [], 0⟩ (by kernel_rfl) ?_
  refine AW.seqK (fun K_4 hK_4 => ?_)
  refine AW.cond rfl (fun hb_5 => ?_) (fun hb_5 => False.elim (by have := of_decide_eq_false hb_5; omega))
  refine AW.skip ?_
  refine hK_4 _ ?_
  refine AW.seqK (fun K_6 hK_6 => ?_)
  refine AW.block ?_
  refine AW.srwK (fun Q_7 hQ_7 => ?_)
  refine RW.one fokW (r_iaD trivial rfl rfl hi_3 (row := e3 p) (mapget hp_3) (r_end ?_))
  refine RW.au fokW 2 [] ⟨[(0, .d (I first1)), (6, .d (I p)), (7, .d (.sl 1 (List.map e3 l))), (8, .d (I (l.length : Int))), (9, .d (I v))], [], 0, Fr.emp, [], 0⟩ (by kernel_rfl) ?_
  refine RW.nil ?_
  refine hQ_7 _ ?_
  refine AW.ra fokW [] ⟨[(0, .d (I (min first1 p))), (7, .d (.sl 1 (List.map e3 l))), (8, .d (I (l.length : Int))), (9, .d (I v))], [], 0, Fr.emp, [], 0⟩ (by kernel_rfl) ?_
  refine hK_6 _ ?_
  refine AW.ra fokW [] ⟨[(0, .d (I (min first1 p))), (7, .d (.sl 1 (List.map e3 l))), (8, .d (I (l.length : Int))), (9, .d (I (wr (v + 1))))], [], 0, Fr.emp, [], 0⟩ (by kernel_rfl) ?_
  obtain rfl := Option.some.inj h
  have ew : wr (v + 1) = v + 1 := inext (N := (l.length : Int)) (by omega) (by omega) (by omega)
  rw [ew]
  exact hK_3 _ (Can.kp (by kernel_rfl))
 ·subst hout
  refine AW.sa fokW [] ⟨[(0, .d (I first1)), (7, .d (.sl 1 (List.map e3 l))), (8, .d (I (l.length : Int))), (9, .d (I v)), (10, .d (.bool (decide (v < (l.length : Int)))))], [], 0, Fr.emp, [], 0⟩ (by kernel_rfl) ?_
  refine AW.seqK (fun K_8 hK_8 => ?_)
  refine AW.cond rfl (fun hb_9 => False.elim (by have := of_decide_eq_true hb_9; omega)) (fun hb_9 => ?_)
  refine AW.exit ?_
  refine hK_1 _ ?_
  refine AW.sa fokW [] ⟨[(4, .d (I first1))], [], 0, Fr.emp, [], 0⟩ (by kernel_rfl) ?_
  obtain rfl := Option.some.inj h
  exact AW.ret (hR_0 _ (retX (.cons (.tmp rfl) .nil) (.refl _) rfl (by kernel_rfl) (by kernel_rfl)))
def g121 (bB : StandBook) (bT : (List (Nat → Int))) (bL : Stand_load) (l : Stand_load) : Option Int := (g123 (wr ((wr (bB.Back * l.weight)) + l.along)) [(wr ((wr (bB.Front * l.weight)) - l.along))]).bind fun r0 => some r0
theorem k121 (bB : StandBook) (bT : (List (Nat → Int))) (bL : Stand_load) (l : Stand_load) (r : Int) (h : g121 bB bT bL l = some r) : SCall Tryd.prog Gs 121 [.agg [.d (I bB.Kind), .d (I bB.Front), .d (I bB.Back), .d (I bB.Radius), .d (.sl 4 (List.map e70 bB.Parts)), .d (I bB.Along), .d (I bB.High), .d (I bB.Lean_), .d (I bB.Limit), .d (.sl 3 (List.map e65 bB.Trials)), .d (.sl 4 (List.map e92 bT)), .d (I bL.weight), .d (I bL.along), .d (I bL.high), .opq], .agg [.d (I l.weight), .d (I l.along), .d (I l.high)]] [] 0 Fr.emp (.d (I r)) [] 0 Fr.emp := by
 unfold g121 at h
 refine SCall.mkK Tryd.func121 c121 rfl rfl (by kernel_rfl) (fun Q_0 hR_0 hN_0 => ?_)
 refine AW.sa fokW [] ⟨[(2, .ptr 0 0), (3, .ptr 1 0)], [(1, .var 80 [.d (I l.weight), .d (I l.along), .d (I l.high)]), (0, .var 83 (bkV bB bT bL .opq))], 2, Fr.emp, [], 0⟩ (by kernel_rfl) ?_
 refine AW.srwK (fun Q_1 hQ_1 => ?_)
 refine RW.au fokW 19 [] ⟨[(13, .d (I (wr ((wr (bB.Back * l.weight)) + l.along)))), (23, .own 2 (List.map e3 [(wr ((wr (bB.Front * l.weight)) - l.along))]).length)], [(2, .row 3 1 (List.map e3 [(wr ((wr (bB.Front * l.weight)) - l.along))]))], 3, Fr.emp, [], 0⟩ (by kernel_rfl) ?_
 obtain ⟨r0, hx_2, h⟩ := bsome h
 refine RW.one fokW (r_callF (rs := [(2, .row 3 1 (List.map e3 [(wr ((wr (bB.Front * l.weight)) - l.along))]))]) trivial rfl (k123 (wr ((wr (bB.Back * l.weight)) + l.along)) [(wr ((wr (bB.Front * l.weight)) - l.along))] _ hx_2) ⟨rfl, trivial⟩ ⟨.refl _, (.own rfl rfl), trivial⟩ rfl rfl rfl (r_end ?_))
 refine RW.au fokW 1 [] ⟨[(4, .d (I r0))], [], 3, Fr.emp, [], 0⟩ (by kernel_rfl) ?_
 refine RW.nil ?_
 refine hQ_1 _ ?_
 obtain rfl := Option.some.inj h
 exact AW.ret (hR_0 _ (retX (.cons (.tmp rfl) .nil) (.refl _) rfl (by kernel_rfl) (by kernel_rfl)))
def g122 (bB : StandBook) (bT : (List (Nat → Int))) (bL : Stand_load) (l : Stand_load) : Option Int := (g123 (wr ((wr (bB.Back * (wr ((wr (bB.Radius * l.weight)) - l.high)))) + (wr (bB.Radius * l.along)))) [(wr ((wr (bB.Front * (wr ((wr (bB.Radius * l.weight)) - l.high)))) - (wr (bB.Radius * l.along))))]).bind fun r0 => some r0
theorem k122 (bB : StandBook) (bT : (List (Nat → Int))) (bL : Stand_load) (l : Stand_load) (r : Int) (h : g122 bB bT bL l = some r) : SCall Tryd.prog Gs 122 [.agg [.d (I bB.Kind), .d (I bB.Front), .d (I bB.Back), .d (I bB.Radius), .d (.sl 4 (List.map e70 bB.Parts)), .d (I bB.Along), .d (I bB.High), .d (I bB.Lean_), .d (I bB.Limit), .d (.sl 3 (List.map e65 bB.Trials)), .d (.sl 4 (List.map e92 bT)), .d (I bL.weight), .d (I bL.along), .d (I bL.high), .opq], .agg [.d (I l.weight), .d (I l.along), .d (I l.high)]] [] 0 Fr.emp (.d (I r)) [] 0 Fr.emp := by
 unfold g122 at h
 refine SCall.mkK Tryd.func122 c122 rfl rfl (by kernel_rfl) (fun Q_0 hR_0 hN_0 => ?_)
 refine AW.sa fokW [] ⟨[(2, .ptr 0 0), (3, .ptr 1 0)], [(1, .var 80 [.d (I l.weight), .d (I l.along), .d (I l.high)]), (0, .var 83 (bkV bB bT bL .opq))], 2, Fr.emp, [], 0⟩ (by kernel_rfl) ?_
 refine AW.sa fokW [] ⟨[(2, .ptr 0 0), (3, .ptr 1 0), (5, .d (I (wr ((wr (bB.Radius * l.weight)) - l.high))))], [(1, .var 80 [.d (I l.weight), .d (I l.along), .d (I l.high)]), (0, .var 83 (bkV bB bT bL .opq))], 2, Fr.emp, [], 0⟩ (by kernel_rfl) ?_
 refine AW.srwK (fun Q_1 hQ_1 => ?_)
 refine RW.au fokW 25 [] ⟨[(26, .d (I (wr ((wr (bB.Back * (wr ((wr (bB.Radius * l.weight)) - l.high)))) + (wr (bB.Radius * l.along)))))), (39, .own 2 (List.map e3 [(wr ((wr (bB.Front * (wr ((wr (bB.Radius * l.weight)) - l.high)))) - (wr (bB.Radius * l.along))))]).length)], [(2, .row 3 1 (List.map e3 [(wr ((wr (bB.Front * (wr ((wr (bB.Radius * l.weight)) - l.high)))) - (wr (bB.Radius * l.along))))]))], 3, Fr.emp, [], 0⟩ (by kernel_rfl) ?_
 obtain ⟨r0, hx_2, h⟩ := bsome h
 refine RW.one fokW (r_callF (rs := [(2, .row 3 1 (List.map e3 [(wr ((wr (bB.Front * (wr ((wr (bB.Radius * l.weight)) - l.high)))) - (wr (bB.Radius * l.along))))]))]) trivial rfl (k123 (wr ((wr (bB.Back * (wr ((wr (bB.Radius * l.weight)) - l.high)))) + (wr (bB.Radius * l.along)))) [(wr ((wr (bB.Front * (wr ((wr (bB.Radius * l.weight)) - l.high)))) - (wr (bB.Radius * l.along))))] _ hx_2) ⟨rfl, trivial⟩ ⟨.refl _, (.own rfl rfl), trivial⟩ rfl rfl rfl (r_end ?_))
 refine RW.au fokW 1 [] ⟨[(4, .d (I r0))], [], 3, Fr.emp, [], 0⟩ (by kernel_rfl) ?_
 refine RW.nil ?_
 refine hQ_1 _ ?_
 obtain rfl := Option.some.inj h
 exact AW.ret (hR_0 _ (retX (.cons (.tmp rfl) .nil) (.refl _) rfl (by kernel_rfl) (by kernel_rfl)))
def g70 (bB : StandBook) (bT : (List (Nat → Int))) (bL : Stand_load) (w : (Nat → Int)) (c : Stand_child) : Option Bool := (ixN 2 bB.Kind).bind fun j => match j with | 0 => (g95 bB bT bL w c).bind fun r0 => (g121 bB bT bL r0).bind fun r0_1 => some (decide (r0_1 < 0)) | 1 => (g95 bB bT bL w c).bind fun r0_2 => (g122 bB bT bL r0_2).bind fun r0_1_1 => some (decide (r0_1_1 < 0)) | _ => none
theorem k70 (bB : StandBook) (bT : (List (Nat → Int))) (bL : Stand_load) (w : (Nat → Int)) (c : Stand_child) (r : Bool) (h : g70 bB bT bL w c = some r) : SCall Tryd.prog Gs 70 [.agg [.d (I bB.Kind), .d (I bB.Front), .d (I bB.Back), .d (I bB.Radius), .d (.sl 4 (List.map e70 bB.Parts)), .d (I bB.Along), .d (I bB.High), .d (I bB.Lean_), .d (I bB.Limit), .d (.sl 3 (List.map e65 bB.Trials)), .d (.sl 4 (List.map e92 bT)), .d (I bL.weight), .d (I bL.along), .d (I bL.high), .opq], .agg [.d (I (w 0)), .d (I (w 1)), .d (I (w 2)), .d (I (w 3))], .agg [.d (I c.weight), .d (I c.lean)]] [] 0 Fr.emp (.d (.bool r)) [] 0 Fr.emp := by
 unfold g70 at h
 refine SCall.mkK Tryd.func70 c70 rfl rfl (by kernel_rfl) (fun Q_0 hR_0 hN_0 => ?_)
 refine AW.sa fokW [] ⟨[(3, .ptr 0 0), (4, .ptr 1 0), (5, .ptr 2 0)], [(2, .var 94 [.d (I c.weight), .d (I c.lean)]), (1, .var 92 [.d (I (w 0)), .d (I (w 1)), .d (I (w 2)), .d (I (w 3))]), (0, .var 83 (bkV bB bT bL .opq))], 3, Fr.emp, [], 0⟩ (by kernel_rfl) ?_
 refine AW.sdrwK fokW (fun Q_1 hQ_1 => ?_)
 refine RunC.auX 3 ⟨[(3, .ptr 0 0), (4, .ptr 1 0), (5, .ptr 2 0), (9, .d (I bB.Kind))], [(2, .var 94 [.d (I c.weight), .d (I c.lean)]), (1, .var 92 [.d (I (w 0)), .d (I (w 1)), .d (I (w 2)), .d (I (w 3))]), (0, .var 83 (bkV bB bT bL .opq))], 3, Fr.emp, [], 0⟩ (by kernel_rfl) ?_
 obtain ⟨j, hv_2, h⟩ := bsome h
 rcases j with _ | _ | j
 ·refine r_iaF trivial rfl rfl (ixN_ok hv_2).1 (ixN_ok hv_2).2.1 ?_
  refine r_loadF trivial rfl (u := .fn 121) (by rw [(ixN_ok hv_2).2.2]; rfl) ?_
  refine RunC.auX 4 ⟨[(11, .d (.fn 121)), (12, .agg [.d (I bB.Kind), .d (I bB.Front), .d (I bB.Back), .d (I bB.Radius), .d (.sl 4 (List.map e70 bB.Parts)), .d (I bB.Along), .d (I bB.High), .d (I bB.Lean_), .d (I bB.Limit), .d (.sl 3 (List.map e65 bB.Trials)), .d (.sl 4 (List.map e92 bT)), .d (I bL.weight), .d (I bL.along), .d (I bL.high), .opq]), (13, .agg [.d (I bB.Kind), .d (I bB.Front), .d (I bB.Back), .d (I bB.Radius), .d (.sl 4 (List.map e70 bB.Parts)), .d (I bB.Along), .d (I bB.High), .d (I bB.Lean_), .d (I bB.Limit), .d (.sl 3 (List.map e65 bB.Trials)), .d (.sl 4 (List.map e92 bT)), .d (I bL.weight), .d (I bL.along), .d (I bL.high), .opq]), (14, .agg [.d (I (w 0)), .d (I (w 1)), .d (I (w 2)), .d (I (w 3))]), (15, .agg [.d (I c.weight), .d (I c.lean)])], [(2, .var 94 [.d (I c.weight), .d (I c.lean)]), (1, .var 92 [.d (I (w 0)), .d (I (w 1)), .d (I (w 2)), .d (I (w 3))]), (0, .var 83 (bkV bB bT bL .opq))], 3, Fr.emp, [], 0⟩ (by kernel_rfl) ?_
  obtain ⟨r0, hx_3, h⟩ := bsome h
  refine r_call trivial rfl (k95 bB bT bL w c _ hx_3) rfl rfl ?_
  obtain ⟨r0_1, hx_4, h⟩ := bsome h
  refine r_callvZ (zr := []) trivial rfl (.fn _) (by kernel_rfl) rfl (k121 bB bT bL r0 _ hx_4) trivial ⟨.refl _, .refl _, trivial⟩ rfl rfl rfl rfl ?_
  refine RunC.auX 2 ⟨[(6, .d (.bool (decide (r0_1 < 0))))], [(2, .var 94 [.d (I c.weight), .d (I c.lean)]), (1, .var 92 [.d (I (w 0)), .d (I (w 1)), .d (I (w 2)), .d (I (w 3))]), (0, .var 83 (bkV bB bT bL .opq))], 3, Fr.emp, [], 0⟩ (by kernel_rfl) ?_
  refine RunC.fin ⟨[(6, .d (.bool (decide (r0_1 < 0))))], [], 3, Fr.emp, [], 0⟩ (by kernel_rfl) (by kernel_rfl) ?_
  refine hQ_1 _ ?_
  obtain rfl := Option.some.inj h
  exact AW.ret (hR_0 _ (retX (.cons (.tmp rfl) .nil) (.refl _) rfl (by kernel_rfl) (by kernel_rfl)))
 ·refine r_iaF trivial rfl rfl (ixN_ok hv_2).1 (ixN_ok hv_2).2.1 ?_
  refine r_loadF trivial rfl (u := .fn 122) (by rw [(ixN_ok hv_2).2.2]; rfl) ?_
  refine RunC.auX 4 ⟨[(11, .d (.fn 122)), (12, .agg [.d (I bB.Kind), .d (I bB.Front), .d (I bB.Back), .d (I bB.Radius), .d (.sl 4 (List.map e70 bB.Parts)), .d (I bB.Along), .d (I bB.High), .d (I bB.Lean_), .d (I bB.Limit), .d (.sl 3 (List.map e65 bB.Trials)), .d (.sl 4 (List.map e92 bT)), .d (I bL.weight), .d (I bL.along), .d (I bL.high), .opq]), (13, .agg [.d (I bB.Kind), .d (I bB.Front), .d (I bB.Back), .d (I bB.Radius), .d (.sl 4 (List.map e70 bB.Parts)), .d (I bB.Along), .d (I bB.High), .d (I bB.Lean_), .d (I bB.Limit), .d (.sl 3 (List.map e65 bB.Trials)), .d (.sl 4 (List.map e92 bT)), .d (I bL.weight), .d (I bL.along), .d (I bL.high), .opq]), (14, .agg [.d (I (w 0)), .d (I (w 1)), .d (I (w 2)), .d (I (w 3))]), (15, .agg [.d (I c.weight), .d (I c.lean)])], [(2, .var 94 [.d (I c.weight), .d (I c.lean)]), (1, .var 92 [.d (I (w 0)), .d (I (w 1)), .d (I (w 2)), .d (I (w 3))]), (0, .var 83 (bkV bB bT bL .opq))], 3, Fr.emp, [], 0⟩ (by kernel_rfl) ?_
  obtain ⟨r0_2, hx_5, h⟩ := bsome h
  refine r_call trivial rfl (k95 bB bT bL w c _ hx_5) rfl rfl ?_
  obtain ⟨r0_1_1, hx_6, h⟩ := bsome h
  refine r_callvZ (zr := []) trivial rfl (.fn _) (by kernel_rfl) rfl (k122 bB bT bL r0_2 _ hx_6) trivial ⟨.refl _, .refl _, trivial⟩ rfl rfl rfl rfl ?_
  refine RunC.auX 2 ⟨[(6, .d (.bool (decide (r0_1_1 < 0))))], [(2, .var 94 [.d (I c.weight), .d (I c.lean)]), (1, .var 92 [.d (I (w 0)), .d (I (w 1)), .d (I (w 2)), .d (I (w 3))]), (0, .var 83 (bkV bB bT bL .opq))], 3, Fr.emp, [], 0⟩ (by kernel_rfl) ?_
  refine RunC.fin ⟨[(6, .d (.bool (decide (r0_1_1 < 0))))], [], 3, Fr.emp, [], 0⟩ (by kernel_rfl) (by kernel_rfl) ?_
  refine hQ_1 _ ?_
  obtain rfl := Option.some.inj h
  exact AW.ret (hR_0 _ (retX (.cons (.tmp rfl) .nil) (.refl _) rfl (by kernel_rfl) (by kernel_rfl)))
 ·cases h
def g85_3 (bB : StandBook) (bT : (List (Nat → Int))) (bL : Stand_load) (w : (Nat → Int)) (but : (List Int)) : Int → StandTrial → Unit → Option (Ctl (Unit) (Bool)) := fun v p _ => (g101 but v).bind fun r0 => bif (!r0) then ((g70 bB bT bL w (Stand_child.mk p.Weight p.Lean_)).bind fun r0_4 => bif (true != (r0_4 == p.Tipped)) then (some (.brk false)) else (some (.next ()))) else (some (.next ()))
def g85 (bB : StandBook) (bT : (List (Nat → Int))) (bL : Stand_load) (w : (Nat → Int)) (but : (List Int)) : Option Bool := bindC (eachC (g85_3 bB bT bL w but) bB.Trials 0 ()) fun _ => some true
theorem k85 (bB : StandBook) (bT : (List (Nat → Int))) (bL : Stand_load) (w : (Nat → Int)) (but : (List Int)) (r : Bool) (h : g85 bB bT bL w but = some r) : SCall Tryd.prog Gs 85 [.agg [.d (I bB.Kind), .d (I bB.Front), .d (I bB.Back), .d (I bB.Radius), .d (.sl 4 (List.map e70 bB.Parts)), .d (I bB.Along), .d (I bB.High), .d (I bB.Lean_), .d (I bB.Limit), .d (.sl 3 (List.map e65 bB.Trials)), .d (.sl 4 (List.map e92 bT)), .d (I bL.weight), .d (I bL.along), .d (I bL.high), .opq], .agg [.d (I (w 0)), .d (I (w 1)), .d (I (w 2)), .d (I (w 3))], .d (.sl 1 (List.map e3 but))] [] 0 Fr.emp (.d (.bool r)) [] 0 Fr.emp := by
 unfold g85 at h
 refine SCall.mkK Tryd.func85 c85 rfl rfl (by kernel_rfl) (fun Q_0 hR_0 hN_0 => ?_)
 refine AW.sa fokW [] ⟨[(2, .d (.sl 1 (List.map e3 but))), (3, .ptr 0 0), (4, .ptr 1 0)], [(1, .var 92 [.d (I (w 0)), .d (I (w 1)), .d (I (w 2)), .d (I (w 3))]), (0, .var 83 (bkV bB bT bL .opq))], 2, Fr.emp, [], 0⟩ (by kernel_rfl) ?_
 refine AW.seqK (fun K_1 hK_1 => ?_)
 refine AW.srwK (fun Q_2 hQ_2 => ?_)
 refine RW.au fokW 3 [] ⟨[(2, .d (.sl 1 (List.map e3 but))), (3, .ptr 0 0), (4, .ptr 1 0), (11, .d (.sl 3 (List.map e65 bB.Trials)))], [(1, .var 92 [.d (I (w 0)), .d (I (w 1)), .d (I (w 2)), .d (I (w 3))]), (0, .var 83 (bkV bB bT bL .opq))], 2, Fr.emp, [], 0⟩ (by kernel_rfl) ?_
 refine RW.one fokW (r_lenX trivial rfl lenm (r_end ?_))
 refine RW.au fokW 1 [] ⟨[(2, .d (.sl 1 (List.map e3 but))), (3, .ptr 0 0), (4, .ptr 1 0), (11, .d (.sl 3 (List.map e65 bB.Trials))), (12, .d (I (bB.Trials.length : Int))), (13, .d (I 0))], [(1, .var 92 [.d (I (w 0)), .d (I (w 1)), .d (I (w 2)), .d (I (w 3))]), (0, .var 83 (bkV bB bT bL .opq))], 2, Fr.emp, [], 0⟩ (by kernel_rfl) ?_
 refine RW.nil ?_
 refine hQ_2 _ ?_
 refine AW.block ?_
 refine AW.sln (t := 11) rfl (fun hN_3 => ?_)
 rw [List.length_map] at hN_3
 obtain ⟨out_3, hx_3, hk_3⟩ := bsomeC h
 refine AW.evCK (fun (v : Int) (_ : Unit) => ⟨[(2, .d (.sl 1 (List.map e3 but))), (3, .ptr 0 0), (4, .ptr 1 0), (11, .d (.sl 3 (List.map e65 bB.Trials))), (12, .d (I (bB.Trials.length : Int))), (13, .d (I v))], [(1, .var 92 [.d (I (w 0)), .d (I (w 1)), .d (I (w 2)), .d (I (w 3))]), (0, .var 83 (bkV bB bT bL .opq))], 2, Fr.emp, [], 0⟩) (g85_3 bB bT bL w but) hx_3 (Can.kp (by kernel_rfl)) (fun v p s_3 hi_3 hl_3 hp_3 c_3 h hb_3 K_3 hK_3 => ?_) (fun v s_3 hi_3 hl_3 hout => ?_)
 ·unfold g85_3 at h
  refine AW.sa fokW [] ⟨[(2, .d (.sl 1 (List.map e3 but))), (3, .ptr 0 0), (4, .ptr 1 0), (11, .d (.sl 3 (List.map e65 bB.Trials))), (12, .d (I (bB.Trials.length : Int))), (13, .d (I v)), (14, .d (.bool (decide (v < (bB.Trials.length : Int)))))], [(1, .var 92 [.d (I (w 0)), .d (I (w 1)), .d (I (w 2)), .d (I (w 3))]), (0, .var 83 (bkV bB bT bL .opq))], 2, Fr.emp, [], 0⟩ (by kernel_rfl) ?_
  refine AW.seqK (fun K_4 hK_4 => ?_)
  refine AW.cond rfl (fun hb_5 => ?_) (fun hb_5 => False.elim (by have := of_decide_eq_false hb_5; omega))
  refine AW.skip ?_
  refine hK_4 _ ?_
  refine AW.seqK (fun K_6 hK_6 => ?_)
  refine AW.block ?_
  refine AW.srwK (fun Q_7 hQ_7 => ?_)
  refine RW.au fokW 1 [] ⟨[(2, .d (.sl 1 (List.map e3 but))), (3, .ptr 0 0), (4, .ptr 1 0), (11, .d (.sl 3 (List.map e65 bB.Trials))), (12, .d (I (bB.Trials.length : Int))), (13, .d (I v)), (15, .d (I v))], [(1, .var 92 [.d (I (w 0)), .d (I (w 1)), .d (I (w 2)), .d (I (w 3))]), (0, .var 83 (bkV bB bT bL .opq))], 2, Fr.emp, [], 0⟩ (by kernel_rfl) ?_
  refine RW.one fokW (r_iaD trivial rfl rfl hi_3 (row := e65 p) (mapget hp_3) (r_end ?_))
  refine RW.au fokW 4 [] ⟨[(2, .d (.sl 1 (List.map e3 but))), (3, .ptr 0 0), (4, .ptr 1 0), (7, .d (I v)), (8, .ptr 2 0), (11, .d (.sl 3 (List.map e65 bB.Trials))), (12, .d (I (bB.Trials.length : Int))), (13, .d (I v))], [(2, .var 65 [.d (I p.Weight), .d (I p.Lean_), .d (.bool p.Tipped)]), (1, .var 92 [.d (I (w 0)), .d (I (w 1)), .d (I (w 2)), .d (I (w 3))]), (0, .var 83 (bkV bB bT bL .opq))], 3, Fr.emp, [], 0⟩ (by kernel_rfl) ?_
  refine RW.nil ?_
  refine hQ_7 _ ?_
  refine AW.sdrwK fokW (fun Q_8 hQ_8 => ?_)
  refine RunC.auX 2 ⟨[(2, .d (.sl 1 (List.map e3 but))), (3, .ptr 0 0), (4, .ptr 1 0), (8, .ptr 2 0), (11, .d (.sl 3 (List.map e65 bB.Trials))), (12, .d (I (bB.Trials.length : Int))), (13, .d (I v)), (18, .d (.sl 1 (List.map e3 but))), (19, .d (I v))], [(2, .var 65 [.d (I p.Weight), .d (I p.Lean_), .d (.bool p.Tipped)]), (1, .var 92 [.d (I (w 0)), .d (I (w 1)), .d (I (w 2)), .d (I (w 3))]), (0, .var 83 (bkV bB bT bL .opq))], 3, Fr.emp, [], 0⟩ (by kernel_rfl) ?_
  obtain ⟨r0, hx_9, h⟩ := bsome h
  refine r_call trivial rfl (k101 but v _ hx_9) rfl rfl ?_
  refine RunC.auX 2 ⟨[(2, .d (.sl 1 (List.map e3 but))), (3, .ptr 0 0), (4, .ptr 1 0), (8, .ptr 2 0), (11, .d (.sl 3 (List.map e65 bB.Trials))), (12, .d (I (bB.Trials.length : Int))), (13, .d (I v)), (22, .d (.bool (!r0)))], [(2, .var 65 [.d (I p.Weight), .d (I p.Lean_), .d (.bool p.Tipped)]), (1, .var 92 [.d (I (w 0)), .d (I (w 1)), .d (I (w 2)), .d (I (w 3))]), (0, .var 83 (bkV bB bT bL .opq))], 3, Fr.emp, [], 0⟩ (by kernel_rfl) ?_
  refine r_split 22 rfl (fun hb_10 => ?_) (fun hb_10 => ?_)
  ·have h := ifT hb_10 h
   refine RunC.auX 7 ⟨[(2, .d (.sl 1 (List.map e3 but))), (3, .ptr 0 0), (4, .ptr 1 0), (8, .ptr 2 0), (11, .d (.sl 3 (List.map e65 bB.Trials))), (12, .d (I (bB.Trials.length : Int))), (13, .d (I v)), (22, .d (.bool true)), (23, .agg [.d (I bB.Kind), .d (I bB.Front), .d (I bB.Back), .d (I bB.Radius), .d (.sl 4 (List.map e70 bB.Parts)), .d (I bB.Along), .d (I bB.High), .d (I bB.Lean_), .d (I bB.Limit), .d (.sl 3 (List.map e65 bB.Trials)), .d (.sl 4 (List.map e92 bT)), .d (I bL.weight), .d (I bL.along), .d (I bL.high), .opq]), (24, .agg [.d (I (w 0)), .d (I (w 1)), .d (I (w 2)), .d (I (w 3))]), (25, .ptr 2 0), (26, .d (I p.Weight)), (27, .ptr 2 1), (28, .d (I p.Lean_)), (29, .agg [.d (I p.Weight), .d (I p.Lean_)])], [(2, .var 65 [.d (I p.Weight), .d (I p.Lean_), .d (.bool p.Tipped)]), (1, .var 92 [.d (I (w 0)), .d (I (w 1)), .d (I (w 2)), .d (I (w 3))]), (0, .var 83 (bkV bB bT bL .opq))], 3, Fr.emp, [], 0⟩ (by kernel_rfl) ?_
   obtain ⟨r0_4, hx_11, h⟩ := bsome h
   refine r_call rfl rfl (k70 bB bT bL w (Stand_child.mk p.Weight p.Lean_) _ hx_11) rfl rfl ?_
   refine RunC.auX 4 ⟨[(2, .d (.sl 1 (List.map e3 but))), (3, .ptr 0 0), (4, .ptr 1 0), (11, .d (.sl 3 (List.map e65 bB.Trials))), (12, .d (I (bB.Trials.length : Int))), (13, .d (I v)), (23, .agg [.d (I bB.Kind), .d (I bB.Front), .d (I bB.Back), .d (I bB.Radius), .d (.sl 4 (List.map e70 bB.Parts)), .d (I bB.Along), .d (I bB.High), .d (I bB.Lean_), .d (I bB.Limit), .d (.sl 3 (List.map e65 bB.Trials)), .d (.sl 4 (List.map e92 bT)), .d (I bL.weight), .d (I bL.along), .d (I bL.high), .opq]), (24, .agg [.d (I (w 0)), .d (I (w 1)), .d (I (w 2)), .d (I (w 3))]), (25, .ptr 2 0), (26, .d (I p.Weight)), (27, .ptr 2 1), (28, .d (I p.Lean_)), (29, .agg [.d (I p.Weight), .d (I p.Lean_)]), (30, .d (.bool r0_4)), (31, .ptr 2 2), (32, .d (.bool p.Tipped)), (33, .d (.bool (true != (r0_4 == p.Tipped)))), (34, .d (.bool (true != (r0_4 == p.Tipped))))], [(2, .var 65 [.d (I p.Weight), .d (I p.Lean_), .d (.bool p.Tipped)]), (1, .var 92 [.d (I (w 0)), .d (I (w 1)), .d (I (w 2)), .d (I (w 3))]), (0, .var 83 (bkV bB bT bL .opq))], 3, Fr.emp, [], 0⟩ (by kernel_rfl) ?_
   refine RunC.fin ⟨[(2, .d (.sl 1 (List.map e3 but))), (3, .ptr 0 0), (4, .ptr 1 0), (11, .d (.sl 3 (List.map e65 bB.Trials))), (12, .d (I (bB.Trials.length : Int))), (13, .d (I v)), (23, .agg [.d (I bB.Kind), .d (I bB.Front), .d (I bB.Back), .d (I bB.Radius), .d (.sl 4 (List.map e70 bB.Parts)), .d (I bB.Along), .d (I bB.High), .d (I bB.Lean_), .d (I bB.Limit), .d (.sl 3 (List.map e65 bB.Trials)), .d (.sl 4 (List.map e92 bT)), .d (I bL.weight), .d (I bL.along), .d (I bL.high), .opq]), (24, .agg [.d (I (w 0)), .d (I (w 1)), .d (I (w 2)), .d (I (w 3))]), (25, .ptr 2 0), (26, .d (I p.Weight)), (27, .ptr 2 1), (28, .d (I p.Lean_)), (29, .agg [.d (I p.Weight), .d (I p.Lean_)]), (30, .d (.bool r0_4)), (31, .ptr 2 2), (32, .d (.bool p.Tipped)), (33, .d (.bool (true != (r0_4 == p.Tipped)))), (34, .d (.bool (true != (r0_4 == p.Tipped))))], [(2, .var 65 [.d (I p.Weight), .d (I p.Lean_), .d (.bool p.Tipped)]), (1, .var 92 [.d (I (w 0)), .d (I (w 1)), .d (I (w 2)), .d (I (w 3))]), (0, .var 83 (bkV bB bT bL .opq))], 3, Fr.emp, [], 0⟩ (by kernel_rfl) (by kernel_rfl) ?_
   refine hQ_8 _ ?_
   refine AW.cond rfl (fun hb_12 => ?_) (fun hb_12 => ?_)
   ·have h := ifT hb_12 h
    refine AW.sa fokW [] ⟨[(6, .d (.bool false))], [], 3, Fr.emp, [], 0⟩ (by kernel_rfl) ?_
    obtain rfl := Option.some.inj h
    have e_1 := hb_3 _ rfl
    subst e_1
    obtain rfl := Aft.bk hk_3
    exact AW.ret (hR_0 _ (retX (.cons (.tmp rfl) .nil) (.refl _) rfl (by kernel_rfl) (by kernel_rfl)))
   ·have h := ifF hb_12 h
    refine AW.skip ?_
    refine hK_6 _ ?_
    refine AW.ra fokW [] ⟨[(2, .d (.sl 1 (List.map e3 but))), (3, .ptr 0 0), (4, .ptr 1 0), (11, .d (.sl 3 (List.map e65 bB.Trials))), (12, .d (I (bB.Trials.length : Int))), (13, .d (I (wr (v + 1)))), (23, .agg [.d (I bB.Kind), .d (I bB.Front), .d (I bB.Back), .d (I bB.Radius), .d (.sl 4 (List.map e70 bB.Parts)), .d (I bB.Along), .d (I bB.High), .d (I bB.Lean_), .d (I bB.Limit), .d (.sl 3 (List.map e65 bB.Trials)), .d (.sl 4 (List.map e92 bT)), .d (I bL.weight), .d (I bL.along), .d (I bL.high), .opq]), (24, .agg [.d (I (w 0)), .d (I (w 1)), .d (I (w 2)), .d (I (w 3))]), (25, .ptr 2 0), (26, .d (I p.Weight)), (27, .ptr 2 1), (28, .d (I p.Lean_)), (29, .agg [.d (I p.Weight), .d (I p.Lean_)]), (30, .d (.bool r0_4)), (31, .ptr 2 2), (32, .d (.bool p.Tipped)), (33, .d (.bool (true != (r0_4 == p.Tipped))))], [(2, .var 65 [.d (I p.Weight), .d (I p.Lean_), .d (.bool p.Tipped)]), (1, .var 92 [.d (I (w 0)), .d (I (w 1)), .d (I (w 2)), .d (I (w 3))]), (0, .var 83 (bkV bB bT bL .opq))], 3, Fr.emp, [], 0⟩ (by kernel_rfl) ?_
    obtain rfl := Option.some.inj h
    have ew : wr (v + 1) = v + 1 := inext (N := (bB.Trials.length : Int)) (by omega) (by omega) (by omega)
    rw [ew]
    exact hK_3 _ _ rfl (Can.kp (by kernel_rfl))
  ·have h := ifF hb_10 h
   refine RunC.auX 12 ⟨[(2, .d (.sl 1 (List.map e3 but))), (3, .ptr 0 0), (4, .ptr 1 0), (11, .d (.sl 3 (List.map e65 bB.Trials))), (12, .d (I (bB.Trials.length : Int))), (13, .d (I v)), (23, .undef), (24, .undef), (25, .undef), (26, .undef), (27, .undef), (28, .undef), (29, .undef), (30, .undef), (31, .undef), (32, .undef), (33, .undef), (34, .d (.bool false))], [(2, .var 65 [.d (I p.Weight), .d (I p.Lean_), .d (.bool p.Tipped)]), (1, .var 92 [.d (I (w 0)), .d (I (w 1)), .d (I (w 2)), .d (I (w 3))]), (0, .var 83 (bkV bB bT bL .opq))], 3, Fr.emp, [], 0⟩ (by kernel_rfl) ?_
   refine RunC.fin ⟨[(2, .d (.sl 1 (List.map e3 but))), (3, .ptr 0 0), (4, .ptr 1 0), (11, .d (.sl 3 (List.map e65 bB.Trials))), (12, .d (I (bB.Trials.length : Int))), (13, .d (I v)), (23, .undef), (24, .undef), (25, .undef), (26, .undef), (27, .undef), (28, .undef), (29, .undef), (30, .undef), (31, .undef), (32, .undef), (33, .undef), (34, .d (.bool false))], [(1, .var 92 [.d (I (w 0)), .d (I (w 1)), .d (I (w 2)), .d (I (w 3))]), (0, .var 83 (bkV bB bT bL .opq))], 3, Fr.emp, [], 0⟩ (by kernel_rfl) (by kernel_rfl) ?_
   refine hQ_8 _ ?_
   refine AW.condF rfl ?_
   refine AW.skip ?_
   refine hK_6 _ ?_
   refine AW.ra fokW [] ⟨[(2, .d (.sl 1 (List.map e3 but))), (3, .ptr 0 0), (4, .ptr 1 0), (11, .d (.sl 3 (List.map e65 bB.Trials))), (12, .d (I (bB.Trials.length : Int))), (13, .d (I (wr (v + 1)))), (23, .undef), (24, .undef), (25, .undef), (26, .undef), (27, .undef), (28, .undef), (29, .undef), (30, .undef), (31, .undef), (32, .undef), (33, .undef)], [(1, .var 92 [.d (I (w 0)), .d (I (w 1)), .d (I (w 2)), .d (I (w 3))]), (0, .var 83 (bkV bB bT bL .opq))], 3, Fr.emp, [], 0⟩ (by kernel_rfl) ?_
   obtain rfl := Option.some.inj h
   have ew : wr (v + 1) = v + 1 := inext (N := (bB.Trials.length : Int)) (by omega) (by omega) (by omega)
   rw [ew]
   exact hK_3 _ _ rfl (Can.kp (by kernel_rfl))
 ·subst hout
  have h := Aft.nx hk_3
  refine AW.sa fokW [] ⟨[(2, .d (.sl 1 (List.map e3 but))), (3, .ptr 0 0), (4, .ptr 1 0), (11, .d (.sl 3 (List.map e65 bB.Trials))), (12, .d (I (bB.Trials.length : Int))), (13, .d (I v)), (14, .d (.bool (decide (v < (bB.Trials.length : Int)))))], [(1, .var 92 [.d (I (w 0)), .d (I (w 1)), .d (I (w 2)), .d (I (w 3))]), (0, .var 83 (bkV bB bT bL .opq))], 2, Fr.emp, [], 0⟩ (by kernel_rfl) ?_
  refine AW.seqK (fun K_13 hK_13 => ?_)
  refine AW.cond rfl (fun hb_14 => False.elim (by have := of_decide_eq_true hb_14; omega)) (fun hb_14 => ?_)
  refine AW.exit ?_
  refine hK_1 _ ?_
  refine AW.sa fokW [] ⟨[(6, .d (.bool true))], [], 2, Fr.emp, [], 0⟩ (by kernel_rfl) ?_
  obtain rfl := Option.some.inj h
  exact AW.ret (hR_0 _ (retX (.cons (.tmp rfl) .nil) (.refl _) rfl (by kernel_rfl) (by kernel_rfl)))
def g61_r4 (x : StandBook) : ((Nat → Int)) → (List (Nat → Int)) → Option (Ctl (List (Nat → Int)) (Unit)) := fun a l => (g85 x l (Stand_load.mk 0 0 0) a ([] : (List Int))).bind fun r0_2 => bif r0_2 then ((appL 32 l [a]).bind fun l1 => some (.next l1)) else (some (.next l))
def g61 (x : StandBook) : Option (StandBook × (List (Nat → Int)) × Stand_load × (List (Stand_child × StandRatio))) := (g84 x ([] : (List (Nat → Int))) (Stand_load.mk 0 0 0)).bind fun (o0B, o0T, o0L) => (g98 (fun a s => rndC (g61_r4 x) a s) o0B o0T o0L (.next ([] : List (Nat → Int)))).bind fun out_4 => match out_4 with | .next l => some (x, l, (Stand_load.mk 0 0 0), []) | .brk _ => none
theorem k61 (x : StandBook) (r : StandBook × (List (Nat → Int)) × Stand_load × (List (Stand_child × StandRatio))) (h : g61 x = some r) : SCall Tryd.prog Gs 61 [.agg (cv25 x)] [] 0 Fr.emp (match r with | (r0B, r0T, r0L, m2) => .agg [.d (I r0B.Kind), .d (I r0B.Front), .d (I r0B.Back), .d (I r0B.Radius), .d (.sl 4 (List.map e70 r0B.Parts)), .d (I r0B.Along), .d (I r0B.High), .d (I r0B.Lean_), .d (I r0B.Limit), .d (.sl 3 (List.map e65 r0B.Trials)), .d (.sl 4 (List.map e92 r0T)), .d (I r0L.weight), .d (I r0L.along), .d (I r0L.high), .map 2]) (match r with | (r0B, r0T, r0L, m2) => [(2, .mp (List.map m94_34 m2))]) 3 Fr.emp := by
 unfold g61 at h
 refine SCall.mkK Tryd.func61 c61 rfl rfl (by kernel_rfl) (fun Q_0 hR_0 hN_0 => ?_)
 refine AW.sa fokW [] ⟨[(1, .ptr 0 0), (2, .ptr 1 0)], [(1, .var 83 [.d (I 0), .d (I 0), .d (I 0), .d (I 0), .d (.nilSl), .d (I 0), .d (I 0), .d (I 0), .d (I 0), .d (.nilSl), .d (.nilSl), .d (I 0), .d (I 0), .d (I 0), .d (.nilMap)]), (0, .var 25 (cv25 x))], 2, Fr.emp, [], 0⟩ (by kernel_rfl) ?_
 refine AW.sa fokW [] ⟨[(2, .ptr 1 0), (3, .ptr 3 0)], [(3, .var 83 (catV (cv25 x) [.d (.nilSl), .d (I 0), .d (I 0), .d (I 0), .map 2])), (2, .mp (List.map m94_34 [])), (1, .var 83 [.d (I 0), .d (I 0), .d (I 0), .d (I 0), .d (.nilSl), .d (I 0), .d (I 0), .d (I 0), .d (I 0), .d (.nilSl), .d (.nilSl), .d (I 0), .d (I 0), .d (I 0), .d (.nilMap)])], 4, Fr.emp, [], 0⟩ (by kernel_rfl) ?_
 refine AW.seqK (fun K_1 hK_1 => ?_)
 refine AW.srwK (fun Q_2 hQ_2 => ?_)
 refine RW.au fokW 1 [] ⟨[(2, .ptr 1 0), (3, .ptr 3 0), (8, .agg [.d (I x.Kind), .d (I x.Front), .d (I x.Back), .d (I x.Radius), .d (.sl 4 (List.map e70 x.Parts)), .d (I x.Along), .d (I x.High), .d (I x.Lean_), .d (I x.Limit), .d (.sl 3 (List.map e65 x.Trials)), .d (.nilSl), .d (I 0), .d (I 0), .d (I 0), .map 2])], [(3, .var 83 (catV (cv25 x) [.d (.nilSl), .d (I 0), .d (I 0), .d (I 0), .map 2])), (2, .mp (List.map m94_34 [])), (1, .var 83 [.d (I 0), .d (I 0), .d (I 0), .d (I 0), .d (.nilSl), .d (I 0), .d (I 0), .d (I 0), .d (I 0), .d (.nilSl), .d (.nilSl), .d (I 0), .d (I 0), .d (I 0), .d (.nilMap)])], 4, Fr.emp, [], 0⟩ (by kernel_rfl) ?_
 obtain ⟨⟨o0B, o0T, o0L⟩, hx_3, h⟩ := bsome h
 refine RW.one fokW (r_callS (zr := []) [] trivial rfl (k84 x ([] : (List (Nat → Int))) (Stand_load.mk 0 0 0) _ hx_3) trivial rfl rfl ⟨(Frz.agg_of ⟨.refl _, .refl _, .refl _, .refl _, .refl _, .refl _, .refl _, .refl _, .refl _, .refl _, (.nil 4), .refl _, .refl _, .refl _, (.opq rfl (by intro _ h; cases h)), trivial⟩), trivial⟩ rfl rfl rfl (r_end ?_))
 refine RW.nil ?_
 refine hQ_2 _ ?_
 refine AW.block ?_
 refine AW.can (Can.thawH 3 10 83 92 4 rfl rfl rfl) ?_
 obtain ⟨out_4, hx_4, h⟩ := bsome h
 refine AW.rfX (fun (l : List (Nat → Int)) => [(6, .dm), (3, .var 83 (catV (cv25 x) [.own 5 (List.map e92 l).length, .d (I 0), .d (I 0), .d (I 0), .map 2])), (5, .row 92 4 (List.map e92 l)), (2, .mp (List.map m94_34 [])), (1, .var 83 [.d (I 0), .d (I 0), .d (I 0), .d (I 0), .d (.nilSl), .d (I 0), .d (I 0), .d (I 0), .d (I 0), .d (.nilSl), .d (.nilSl), .d (I 0), .d (I 0), .d (I 0), .d (.nilMap)])]) (fun (_ : Unit) => []) (fun _ => some .ret) (g61_r4 x) (fun (a : (Nat → Int)) => [.agg [.d (I (a 0)), .d (I (a 1)), .d (I (a 2)), .d (I (a 3))]]) (s0 := ([] : List (Nat → Int))) (out := out_4) [(2, .ptr 1 0), (3, .ptr 3 0)] [(3, .var 83 (catV (cv25 x) [.own 5 (List.map e92 []).length, .d (I 0), .d (I 0), .d (I 0), .map 2])), (5, .row 92 4 (List.map e92 [])), (2, .mp (List.map m94_34 [])), (1, .var 83 [.d (I 0), .d (I 0), .d (I 0), .d (I 0), .d (.nilSl), .d (I 0), .d (I 0), .d (I 0), .d (I 0), .d (.nilSl), .d (.nilSl), .d (I 0), .d (I 0), .d (I 0), .d (.nilMap)])] [4] rfl (.clo _ _ _) (by kernel_rfl) (by kernel_rfl) (fun fr_ hY_4 => k98 fr_ _ (fun a s s2 b h => hY_4 a s s2 b h) o0B o0T o0L (.next ([] : List (Nat → Int))) _ hx_4) (by kernel_rfl) ⟨rfl, trivial⟩ rfl ⟨rfl, rfl⟩ rfl rfl (fun _ => rfl) (fun _ => rfl) (fun a_4 s_4 c_4 h l_4 => ?_) (fun _ => rfl) ?_
 ·have ⟨a, e_4⟩ : ∃ x, x = a_4 := ⟨_, rfl⟩
  subst e_4
  have ⟨l, e_4⟩ : ∃ x, x = s_4 := ⟨_, rfl⟩
  subst e_4
  unfold g61_r4 at h
  refine AW.ra (fokR l_4) [] ⟨[(3, .ptr 3 0), (4, .ptr 7 0)], [(7, .var 92 [.d (I (a 0)), .d (I (a 1)), .d (I (a 2)), .d (I (a 3))]), (6, .dm), (3, .var 83 (catV (cv25 x) [.own 5 (List.map e92 l).length, .d (I 0), .d (I 0), .d (I 0), .map 2])), (5, .row 92 4 (List.map e92 l)), (2, .mp (List.map m94_34 [])), (1, .var 83 [.d (I 0), .d (I 0), .d (I 0), .d (I 0), .d (.nilSl), .d (I 0), .d (I 0), .d (I 0), .d (I 0), .d (.nilSl), .d (.nilSl), .d (I 0), .d (I 0), .d (I 0), .d (.nilMap)])], 8, Fr.emp, [], 7⟩ (by kernel_rfl) ?_
  refine AW.block ?_
  refine AW.srwK (fun Q_5 hQ_5 => ?_)
  refine RW.au (fokR l_4) 2 [] ⟨[(3, .ptr 3 0), (4, .ptr 7 0), (11, .agg [.d (I x.Kind), .d (I x.Front), .d (I x.Back), .d (I x.Radius), .d (.sl 4 (List.map e70 x.Parts)), .d (I x.Along), .d (I x.High), .d (I x.Lean_), .d (I x.Limit), .d (.sl 3 (List.map e65 x.Trials)), .own 5 (List.map e92 l).length, .d (I 0), .d (I 0), .d (I 0), .map 2]), (12, .agg [.d (I (a 0)), .d (I (a 1)), .d (I (a 2)), .d (I (a 3))])], [(7, .var 92 [.d (I (a 0)), .d (I (a 1)), .d (I (a 2)), .d (I (a 3))]), (6, .dm), (3, .var 83 (catV (cv25 x) [.own 5 (List.map e92 l).length, .d (I 0), .d (I 0), .d (I 0), .map 2])), (5, .row 92 4 (List.map e92 l)), (2, .mp (List.map m94_34 [])), (1, .var 83 [.d (I 0), .d (I 0), .d (I 0), .d (I 0), .d (.nilSl), .d (I 0), .d (I 0), .d (I 0), .d (I 0), .d (.nilSl), .d (.nilSl), .d (I 0), .d (I 0), .d (I 0), .d (.nilMap)])], 8, Fr.emp, [], 7⟩ (by kernel_rfl) ?_
  obtain ⟨r0_2, hx_6, h⟩ := bsome h
  refine RW.one (fokR l_4) (r_callF (rs := [(5, .row 92 4 (List.map e92 l))]) trivial rfl (k85 x l (Stand_load.mk 0 0 0) a ([] : (List Int)) _ hx_6) ⟨rfl, trivial⟩ ⟨(Frz.agg_of ⟨.refl _, .refl _, .refl _, .refl _, .refl _, .refl _, .refl _, .refl _, .refl _, .refl _, (.own rfl rfl), .refl _, .refl _, .refl _, (.opq rfl (by intro _ h; cases h)), trivial⟩), .refl _, (.nil 1), trivial⟩ rfl rfl rfl (r_end ?_))
  refine RW.nil ?_
  refine hQ_5 _ ?_
  refine AW.cond rfl (fun hb_7 => ?_) (fun hb_7 => ?_)
  ·have h := ifT hb_7 h
   refine AW.rw ?_
   refine RW.au (fokR l_4) 4 [] ⟨[(3, .ptr 3 0), (15, .own 5 (List.map e92 l).length), (17, .own 8 (List.map e92 [a]).length)], [(8, .row 92 4 (List.map e92 [a])), (6, .dm), (3, .var 83 (catV (cv25 x) [.own 5 (List.map e92 l).length, .d (I 0), .d (I 0), .d (I 0), .map 2])), (5, .row 92 4 (List.map e92 l)), (2, .mp (List.map m94_34 [])), (1, .var 83 [.d (I 0), .d (I 0), .d (I 0), .d (I 0), .d (.nilSl), .d (I 0), .d (I 0), .d (I 0), .d (I 0), .d (.nilSl), .d (.nilSl), .d (I 0), .d (I 0), .d (I 0), .d (.nilMap)])], 9, Fr.emp, [], 7⟩ (by kernel_rfl) ?_
   obtain ⟨l1, hv_9, h⟩ := bsome h
   refine RW.one (fokR l_4) (r_apO trivial rfl rfl rfl rfl rfl rfl (apz hv_9 e92) (apr hv_9 e92) (r_end ?_))
   refine RW.au (fokR l_4) 2 [] ⟨[], [(3, .var 83 (catV (cv25 x) [.own 5 (List.map e92 l1).length, .d (I 0), .d (I 0), .d (I 0), .map 2])), (5, .row 92 4 (List.map e92 l1)), (6, .dm), (2, .mp (List.map m94_34 [])), (1, .var 83 [.d (I 0), .d (I 0), .d (I 0), .d (I 0), .d (.nilSl), .d (I 0), .d (I 0), .d (I 0), .d (I 0), .d (.nilSl), .d (.nilSl), .d (I 0), .d (I 0), .d (I 0), .d (.nilMap)])], 9, Fr.emp, [], 7⟩ (by kernel_rfl) ?_
   refine RW.nil ?_
   obtain rfl := Option.some.inj h
   exact ⟨⟨[], [(6, .dm), (3, .var 83 (catV (cv25 x) [.own 5 (List.map e92 l1).length, .d (I 0), .d (I 0), .d (I 0), .map 2])), (5, .row 92 4 (List.map e92 l1)), (2, .mp (List.map m94_34 [])), (1, .var 83 [.d (I 0), .d (I 0), .d (I 0), .d (I 0), .d (.nilSl), .d (I 0), .d (I 0), .d (I 0), .d (I 0), .d (.nilSl), .d (.nilSl), .d (I 0), .d (I 0), .d (I 0), .d (.nilMap)])], 7, Fr.emp, [], 7⟩, Can.kp (by kernel_rfl), rdX trivial rfl (by kernel_rfl) (by kernel_rfl)⟩
  ·have h := ifF hb_7 h
   refine AW.skip ?_
   obtain rfl := Option.some.inj h
   exact ⟨⟨[], [(6, .dm), (3, .var 83 (catV (cv25 x) [.own 5 (List.map e92 l).length, .d (I 0), .d (I 0), .d (I 0), .map 2])), (5, .row 92 4 (List.map e92 l)), (2, .mp (List.map m94_34 [])), (1, .var 83 [.d (I 0), .d (I 0), .d (I 0), .d (I 0), .d (.nilSl), .d (I 0), .d (I 0), .d (I 0), .d (I 0), .d (.nilSl), .d (.nilSl), .d (I 0), .d (I 0), .d (I 0), .d (.nilMap)])], 7, Fr.emp, [], 7⟩, Can.kp (by kernel_rfl), rdX trivial rfl (by kernel_rfl) (by kernel_rfl)⟩
 ·rcases out_4 with l | _
  ·refine hK_1 _ ?_
   refine AW.sa fokW [] ⟨[(2, .ptr 1 0)], [(1, .var 83 (catV (cv25 x) [.own 5 (List.map e92 l).length, .d (I 0), .d (I 0), .d (I 0), .map 2])), (6, .dm), (5, .row 92 4 (List.map e92 l)), (2, .mp (List.map m94_34 []))], 7, Fr.emp, [6], 0⟩ (by kernel_rfl) ?_
   obtain rfl := Option.some.inj h
   exact AW.ret (hR_0 _ (retX (.cons (.agg rfl rfl (Nat.le_of_ble_eq_true rfl)) .nil) (Frz.agg_of ⟨.refl _, .refl _, .refl _, .refl _, .refl _, .refl _, .refl _, .refl _, .refl _, .refl _, (.own rfl rfl), .refl _, .refl _, .refl _, .refl _, trivial⟩) rfl (by kernel_rfl) (by kernel_rfl)))
  ·cases h
def g16 (x : StandBook) : Option (Bool × Int) := (g18 x).bind fun A1 => bif (decide (A1 ≠ 0)) then (some (false, A1)) else ((g61 x).bind fun (r0B, r0T, r0L, m2) => some ((decide (0 < (r0T.length : Int))), 0))
theorem k16 (x : StandBook) (r : Bool × Int) (h : g16 x = some r) : SCall Tryd.prog Gs 16 [.agg (cv25 x)] [] 0 Fr.emp (match r with | (r0_1, r1_1) => .tup [.d (.bool r0_1), .d (I r1_1)]) [] 0 Fr.emp := by
 unfold g16 at h
 refine SCall.mkK Tryd.func16 c16 rfl rfl (by kernel_rfl) (fun Q_0 hR_0 hN_0 => ?_)
 refine AW.sa fokW [] ⟨[(1, .ptr 0 0)], [(0, .var 25 (cv25 x))], 1, Fr.emp, [], 0⟩ (by kernel_rfl) ?_
 refine AW.seqK (fun K_1 hK_1 => ?_)
 refine AW.srwK (fun Q_2 hQ_2 => ?_)
 refine RW.au fokW 1 [] ⟨[(1, .ptr 0 0), (5, .agg (cv25 x))], [(0, .var 25 (cv25 x))], 1, Fr.emp, [], 0⟩ (by kernel_rfl) ?_
 obtain ⟨A1, hx_3, h⟩ := bsome h
 refine RW.one fokW (r_call trivial rfl (k18 x _ hx_3) rfl rfl (r_end ?_))
 refine RW.au fokW 1 [] ⟨[(1, .ptr 0 0), (4, .d (I A1))], [(0, .var 25 (cv25 x))], 1, Fr.emp, [], 0⟩ (by kernel_rfl) ?_
 refine RW.nil ?_
 refine hQ_2 _ ?_
 refine AW.sa fokW [] ⟨[(1, .ptr 0 0), (4, .d (I A1)), (8, .d (.bool (decide (A1 ≠ 0))))], [(0, .var 25 (cv25 x))], 1, Fr.emp, [], 0⟩ (by kernel_rfl) ?_
 refine AW.cond rfl (fun hb_4 => ?_) (fun hb_4 => ?_)
 ·have h := ifT hb_4 h
  refine AW.sa fokW [] ⟨[(2, .d (.bool false)), (3, .d (I A1))], [], 1, Fr.emp, [], 0⟩ (by kernel_rfl) ?_
  obtain rfl := Option.some.inj h
  exact AW.ret (hR_0 _ (retX (.cons (.tmp rfl) (.cons (.tmp rfl) .nil)) (.refl _) rfl (by kernel_rfl) (by kernel_rfl)))
 ·have h := ifF hb_4 h
  refine AW.skip ?_
  refine hK_1 _ ?_
  refine AW.srwK (fun Q_5 hQ_5 => ?_)
  refine RW.au fokW 1 [] ⟨[(10, .agg (cv25 x))], [], 1, Fr.emp, [], 0⟩ (by kernel_rfl) ?_
  obtain ⟨⟨r0B, r0T, r0L, m2⟩, hx_6, h⟩ := bsome h
  refine RW.one fokW (r_callS (zr := []) [] trivial rfl (k61 x _ hx_6) trivial rfl rfl ⟨.refl _, trivial⟩ rfl rfl rfl (r_end ?_))
  refine RW.au fokW 1 [] ⟨[(12, .d (.sl 4 (List.map e92 r0T)))], [], 4, Fr.emp, [], 0⟩ (by kernel_rfl) ?_
  refine RW.one fokW (r_lenX trivial rfl lenm (r_end ?_))
  refine RW.au fokW 3 [] ⟨[(2, .d (.bool (decide (0 < (r0T.length : Int))))), (3, .d (I 0))], [], 4, Fr.emp, [], 0⟩ (by kernel_rfl) ?_
  refine RW.nil ?_
  refine hQ_5 _ ?_
  obtain rfl := Option.some.inj h
  exact AW.ret (hR_0 _ (retX (.cons (.tmp rfl) (.cons (.tmp rfl) .nil)) (.refl _) rfl (by kernel_rfl) (by kernel_rfl)))
def g43 (n : Int) (first : Int) (last : Int) : Option Bool := some ((decide (first ≤ n)) && (decide (n ≤ last)))
theorem k43 (n : Int) (first : Int) (last : Int) (r : Bool) (h : g43 n first last = some r) : SCall Tryd.prog Gs 43 [.d (I n), .d (I first), .d (I last)] [] 0 Fr.emp (.d (.bool r)) [] 0 Fr.emp := by
 unfold g43 at h
 refine SCall.mkK Tryd.func43 c43 rfl rfl (by kernel_rfl) (fun Q_0 hR_0 hN_0 => ?_)
 refine AW.sa fokW [] ⟨[(0, .d (I n)), (1, .d (I first)), (2, .d (I last))], [], 0, Fr.emp, [], 0⟩ (by kernel_rfl) ?_
 refine AW.sa fokW [10] ⟨[(6, .d (.bool ((decide (first ≤ n)) && (decide (n ≤ last)))))], [], 0, Fr.emp, [], 0⟩ (by kernel_rfl) ?_
 obtain rfl := Option.some.inj h
 exact AW.ret (hR_0 _ (retX (.cons (.tmp rfl) .nil) (.refl _) rfl (by kernel_rfl) (by kernel_rfl)))
def g87 (s : Span) (first : Int) (last : Int) : Option Bool := some (((decide (first ≤ s.Low)) && (decide (s.Low ≤ s.High))) && (decide (s.High ≤ last)))
theorem k87 (s : Span) (first : Int) (last : Int) (r : Bool) (h : g87 s first last = some r) : SCall Tryd.prog Gs 87 [.agg [.d (I s.Low), .d (I s.High)], .d (I first), .d (I last)] [] 0 Fr.emp (.d (.bool r)) [] 0 Fr.emp := by
 unfold g87 at h
 refine SCall.mkK Tryd.func87 c87 rfl rfl (by kernel_rfl) (fun Q_0 hR_0 hN_0 => ?_)
 refine AW.sa fokW [] ⟨[(1, .d (I first)), (2, .d (I last)), (3, .ptr 0 0)], [(0, .var 42 [.d (I s.Low), .d (I s.High)])], 1, Fr.emp, [], 0⟩ (by kernel_rfl) ?_
 refine AW.sa fokW [11, 18] ⟨[(6, .d (.bool (((decide (first ≤ s.Low)) && (decide (s.Low ≤ s.High))) && (decide (s.High ≤ last)))))], [], 1, Fr.emp, [], 0⟩ (by kernel_rfl) ?_
 obtain rfl := Option.some.inj h
 exact AW.ret (hR_0 _ (retX (.cons (.tmp rfl) .nil) (.refl _) rfl (by kernel_rfl) (by kernel_rfl)))
end Go.Proofs.Tz
namespace Go.Proofs.Tz
open Go Go.Abs Go.Proofs
def g74_2 (b : StandBook) : Int → Int → (Int × Int × Int) → Option (Int × Int × Int) := fun i p (w, m, h_) => (ixL b.Parts i).bind fun p1 => some ((wr (w + p)), (wr (m + (wr (p * p1.Along)))), (wr (h_ + (wr (p * p1.High)))))
def g74 (b : StandBook) (truth : (List Int)) (weight : Int) (lean : Int) : Option (Int × Int) := (eachS (g74_2 b) truth 0 (weight, (wr (weight * (wr (b.Along + lean)))), (wr (weight * b.High)))).bind fun (w, m, h_) => bif (decide (b.Kind = 0)) then (some ((min (wr ((wr (b.Back * w)) + m)) (wr ((wr (b.Front * w)) - m))), w)) else (some ((min (wr ((wr (b.Back * (wr ((wr (b.Radius * w)) - h_)))) + (wr (b.Radius * m)))) (wr ((wr (b.Front * (wr ((wr (b.Radius * w)) - h_)))) - (wr (b.Radius * m))))), w))
def g72 (b : StandBook) (truth : (List Int)) (weight : Int) (lean : Int) : Option Bool := (g74 b truth weight lean).bind fun (r0_1, r1_1) => some (decide (r0_1 < 0))
def g102_2 (b : StandBook) (truth : (List Int)) : Int → StandTrial → Unit → Option (Ctl (Unit) (Bool)) := fun i p _ => (g72 b truth p.Weight p.Lean_).bind fun r0 => bif (true != (r0 == p.Tipped)) then (some (.brk false)) else (some (.next ()))
def g102 (b : StandBook) (truth : (List Int)) : Option Bool := bindC (eachC (g102_2 b truth) b.Trials 0 ()) fun _ => some true
def g82 (l : (List Int)) (n : Int) : Option (List Int) := (mkL2 8 0 (wr ((l.length : Int) + 1)) 0).bind fun l1 => (appL 8 l1 l).bind fun l2 => (appL 8 l2 [n]).bind fun l3 => some l3
def g94_12 (rec_ : StandBook → (List Int) → Option (List (List Int))) (b : StandBook) (some_ : (List Int)) : Int → (List (List Int)) → Option (List (List Int)) := fun n l2 => (g82 some_ n).bind fun r0 => (rec_ b r0).bind fun r0_5_1 => (appL 24 l2 r0_5_1).bind fun l3 => some l3
def g94 : Nat → StandBook → (List Int) → Option (List (List Int))
 | 0, _, _ => none
 | n_ + 1, b, some_ => bif (decide ((some_.length : Int) = (b.Parts.length : Int))) then ((g102 b some_).bind fun r0_2 => bif r0_2 then (some [some_]) else (some [])) else ((ixL b.Parts (some_.length : Int)).bind fun p => (((must (decide ((p.Weight.High + 1) ≤ 9223372036854775807))).bind fun _ => (must (decide (-9223372036854775808 ≤ p.Weight.Low))).bind fun _ => (forS (g94_12 (g94 n_) b some_) ((((p.Weight.High + 1) : Int) - p.Weight.Low).toNat) p.Weight.Low ([] : List (List Int))).bind fun l2 => some l2).bind fun l1 => some l1).bind fun l => some l)
def g62 (b : StandBook) : Option (List (List Int)) := (g94 1000 b ([] : (List Int))).bind fun r0_5 => some r0_5
def g68 (x : StandBook) (n : Int) : Option Bool := (g63 n 1 x.Limit).bind fun r0 => some r0
theorem k68 (x : StandBook) (n : Int) (r : Bool) (h : g68 x n = some r) : SCall Tryd.prog Gs 68 [.agg (cv25 x), .d (I n)] [] 0 Fr.emp (.d (.bool r)) [] 0 Fr.emp := by
 unfold g68 at h
 refine SCall.mkK Tryd.func68 c68 rfl rfl (by kernel_rfl) (fun Q_0 hR_0 hN_0 => ?_)
 refine AW.sa fokW [] ⟨[(1, .d (I n)), (2, .ptr 0 0)], [(0, .var 25 (cv25 x))], 1, Fr.emp, [], 0⟩ (by kernel_rfl) ?_
 refine AW.srwK (fun Q_1 hQ_1 => ?_)
 refine RW.au fokW 3 [] ⟨[(5, .d (I n)), (7, .d (I x.Limit))], [], 1, Fr.emp, [], 0⟩ (by kernel_rfl) ?_
 obtain ⟨r0, hx_2, h⟩ := bsome h
 refine RW.one fokW (r_call trivial rfl (k63 n 1 x.Limit _ hx_2) rfl rfl (r_end ?_))
 refine RW.au fokW 1 [] ⟨[(4, .d (.bool r0))], [], 1, Fr.emp, [], 0⟩ (by kernel_rfl) ?_
 refine RW.nil ?_
 refine hQ_1 _ ?_
 obtain rfl := Option.some.inj h
 exact AW.ret (hR_0 _ (retX (.cons (.tmp rfl) .nil) (.refl _) rfl (by kernel_rfl) (by kernel_rfl)))
def g69 (x : StandBook) (n : Int) : Option Bool := (g63 n (wr (-x.Lean_)) x.Lean_).bind fun r0 => some r0
theorem k69 (x : StandBook) (n : Int) (r : Bool) (h : g69 x n = some r) : SCall Tryd.prog Gs 69 [.agg (cv25 x), .d (I n)] [] 0 Fr.emp (.d (.bool r)) [] 0 Fr.emp := by
 unfold g69 at h
 refine SCall.mkK Tryd.func69 c69 rfl rfl (by kernel_rfl) (fun Q_0 hR_0 hN_0 => ?_)
 refine AW.sa fokW [] ⟨[(1, .d (I n)), (2, .ptr 0 0)], [(0, .var 25 (cv25 x))], 1, Fr.emp, [], 0⟩ (by kernel_rfl) ?_
 refine AW.srwK (fun Q_1 hQ_1 => ?_)
 refine RW.au fokW 6 [] ⟨[(5, .d (I n)), (8, .d (I (wr (-x.Lean_)))), (10, .d (I x.Lean_))], [], 1, Fr.emp, [], 0⟩ (by kernel_rfl) ?_
 obtain ⟨r0, hx_2, h⟩ := bsome h
 refine RW.one fokW (r_call trivial rfl (k63 n (wr (-x.Lean_)) x.Lean_ _ hx_2) rfl rfl (r_end ?_))
 refine RW.au fokW 1 [] ⟨[(4, .d (.bool r0))], [], 1, Fr.emp, [], 0⟩ (by kernel_rfl) ?_
 refine RW.nil ?_
 refine hQ_1 _ ?_
 obtain rfl := Option.some.inj h
 exact AW.ret (hR_0 _ (retX (.cons (.tmp rfl) .nil) (.refl _) rfl (by kernel_rfl) (by kernel_rfl)))
def g67 (x : StandBook) (is : Bool) : Option (Ctl (StandBook × (List (Nat → Int)) × Stand_load × Int) (StandBook × (List (Nat → Int)) × Stand_load × Int × (List (Stand_child × StandRatio)))) := (g18 x).bind fun A1 => bif (decide (A1 ≠ 0)) then (some (.next ((StandBook.mk 0 0 0 0 [] 0 0 0 0 []), [], (Stand_load.mk 0 0 0), A1))) else (bif (!is) then (some (.next ((StandBook.mk 0 0 0 0 [] 0 0 0 0 []), [], (Stand_load.mk 0 0 0), 21))) else ((g61 x).bind fun (r0B, r0T, r0L, m2) => bif (decide ((r0T.length : Int) = 0)) then (some (.brk (r0B, r0T, r0L, 22, m2))) else (some (.brk (r0B, r0T, r0L, 0, m2)))))
theorem k67 (x : StandBook) (is : Bool) (r : Ctl (StandBook × (List (Nat → Int)) × Stand_load × Int) (StandBook × (List (Nat → Int)) × Stand_load × Int × (List (Stand_child × StandRatio)))) (h : g67 x is = some r) : SCall Tryd.prog Gs 67 [.agg (cv25 x), .d (.bool is)] [] 0 Fr.emp (match r with | .next (r0B5, r0T5, r0L5, r1_2) => .tup [.agg [.d (I r0B5.Kind), .d (I r0B5.Front), .d (I r0B5.Back), .d (I r0B5.Radius), .d (.sl 4 (List.map e70 r0B5.Parts)), .d (I r0B5.Along), .d (I r0B5.High), .d (I r0B5.Lean_), .d (I r0B5.Limit), .d (.sl 3 (List.map e65 r0B5.Trials)), .d (.sl 4 (List.map e92 r0T5)), .d (I r0L5.weight), .d (I r0L5.along), .d (I r0L5.high), .d (.nilMap)], .d (I r1_2)] | .brk (r0B6, r0T6, r0L6, r1_3, m4_1) => .tup [.agg [.d (I r0B6.Kind), .d (I r0B6.Front), .d (I r0B6.Back), .d (I r0B6.Radius), .d (.sl 4 (List.map e70 r0B6.Parts)), .d (I r0B6.Along), .d (I r0B6.High), .d (I r0B6.Lean_), .d (I r0B6.Limit), .d (.sl 3 (List.map e65 r0B6.Trials)), .d (.sl 4 (List.map e92 r0T6)), .d (I r0L6.weight), .d (I r0L6.along), .d (I r0L6.high), .map 4], .d (I r1_3)]) (match r with | .next (r0B5, r0T5, r0L5, r1_2) => [] | .brk (r0B6, r0T6, r0L6, r1_3, m4_1) => [(4, .mp (List.map m94_34 m4_1))]) (match r with | .next (r0B5, r0T5, r0L5, r1_2) => 0 | .brk (r0B6, r0T6, r0L6, r1_3, m4_1) => 5) Fr.emp := by
 unfold g67 at h
 refine SCall.mkK Tryd.func67 c67 rfl (by rcases r with _ | _ <;> rfl) (by rcases r with _ | _ <;> kernel_rfl) (fun Q_0 hR_0 hN_0 => ?_)
 refine AW.sa fokW [] ⟨[(1, .d (.bool is)), (2, .ptr 0 0), (4, .ptr 1 0)], [(1, .var 83 [.d (I 0), .d (I 0), .d (I 0), .d (I 0), .d (.nilSl), .d (I 0), .d (I 0), .d (I 0), .d (I 0), .d (.nilSl), .d (.nilSl), .d (I 0), .d (I 0), .d (I 0), .d (.nilMap)]), (0, .var 25 (cv25 x))], 2, Fr.emp, [], 0⟩ (by kernel_rfl) ?_
 refine AW.seqK (fun K_1 hK_1 => ?_)
 refine AW.srwK (fun Q_2 hQ_2 => ?_)
 refine RW.au fokW 1 [] ⟨[(1, .d (.bool is)), (2, .ptr 0 0), (4, .ptr 1 0), (8, .agg (cv25 x))], [(1, .var 83 [.d (I 0), .d (I 0), .d (I 0), .d (I 0), .d (.nilSl), .d (I 0), .d (I 0), .d (I 0), .d (I 0), .d (.nilSl), .d (.nilSl), .d (I 0), .d (I 0), .d (I 0), .d (.nilMap)]), (0, .var 25 (cv25 x))], 2, Fr.emp, [], 0⟩ (by kernel_rfl) ?_
 obtain ⟨A1, hx_3, h⟩ := bsome h
 refine RW.one fokW (r_call trivial rfl (k18 x _ hx_3) rfl rfl (r_end ?_))
 refine RW.au fokW 1 [] ⟨[(1, .d (.bool is)), (2, .ptr 0 0), (4, .ptr 1 0), (6, .d (I A1))], [(1, .var 83 [.d (I 0), .d (I 0), .d (I 0), .d (I 0), .d (.nilSl), .d (I 0), .d (I 0), .d (I 0), .d (I 0), .d (.nilSl), .d (.nilSl), .d (I 0), .d (I 0), .d (I 0), .d (.nilMap)]), (0, .var 25 (cv25 x))], 2, Fr.emp, [], 0⟩ (by kernel_rfl) ?_
 refine RW.nil ?_
 refine hQ_2 _ ?_
 refine AW.sa fokW [] ⟨[(1, .d (.bool is)), (2, .ptr 0 0), (4, .ptr 1 0), (6, .d (I A1)), (11, .d (.bool (decide (A1 ≠ 0))))], [(1, .var 83 [.d (I 0), .d (I 0), .d (I 0), .d (I 0), .d (.nilSl), .d (I 0), .d (I 0), .d (I 0), .d (I 0), .d (.nilSl), .d (.nilSl), .d (I 0), .d (I 0), .d (I 0), .d (.nilMap)]), (0, .var 25 (cv25 x))], 2, Fr.emp, [], 0⟩ (by kernel_rfl) ?_
 refine AW.cond rfl (fun hb_4 => ?_) (fun hb_4 => ?_)
 ·have h := ifT hb_4 h
  refine AW.sa fokW [] ⟨[(4, .ptr 1 0), (5, .d (I A1))], [(1, .var 83 [.d (I 0), .d (I 0), .d (I 0), .d (I 0), .d (.nilSl), .d (I 0), .d (I 0), .d (I 0), .d (I 0), .d (.nilSl), .d (.nilSl), .d (I 0), .d (I 0), .d (I 0), .d (.nilMap)])], 2, Fr.emp, [], 0⟩ (by kernel_rfl) ?_
  obtain rfl := Option.some.inj h
  exact AW.ret (hR_0 _ (retX (.cons (.agg rfl rfl (Nat.le_of_ble_eq_true rfl)) (.cons (.tmp rfl) .nil)) (Frz.tup_of ⟨Frz.agg_of ⟨.refl _, .refl _, .refl _, .refl _, (.nil 4), .refl _, .refl _, .refl _, .refl _, (.nil 3), (.nil 4), .refl _, .refl _, .refl _, .refl _, trivial⟩, .refl _, trivial⟩) rfl (by kernel_rfl) (by kernel_rfl)))
 ·have h := ifF hb_4 h
  refine AW.skip ?_
  refine hK_1 _ ?_
  refine AW.seqK (fun K_5 hK_5 => ?_)
  refine AW.sa fokW [] ⟨[(2, .ptr 0 0), (4, .ptr 1 0), (15, .d (.bool (!is)))], [(1, .var 83 [.d (I 0), .d (I 0), .d (I 0), .d (I 0), .d (.nilSl), .d (I 0), .d (I 0), .d (I 0), .d (I 0), .d (.nilSl), .d (.nilSl), .d (I 0), .d (I 0), .d (I 0), .d (.nilMap)]), (0, .var 25 (cv25 x))], 2, Fr.emp, [], 0⟩ (by kernel_rfl) ?_
  refine AW.cond rfl (fun hb_6 => ?_) (fun hb_6 => ?_)
  ·have h := ifT hb_6 h
   refine AW.sa fokW [] ⟨[(4, .ptr 1 0), (5, .d (I 21))], [(1, .var 83 [.d (I 0), .d (I 0), .d (I 0), .d (I 0), .d (.nilSl), .d (I 0), .d (I 0), .d (I 0), .d (I 0), .d (.nilSl), .d (.nilSl), .d (I 0), .d (I 0), .d (I 0), .d (.nilMap)])], 2, Fr.emp, [], 0⟩ (by kernel_rfl) ?_
   obtain rfl := Option.some.inj h
   exact AW.ret (hR_0 _ (retX (.cons (.agg rfl rfl (Nat.le_of_ble_eq_true rfl)) (.cons (.tmp rfl) .nil)) (Frz.tup_of ⟨Frz.agg_of ⟨.refl _, .refl _, .refl _, .refl _, (.nil 4), .refl _, .refl _, .refl _, .refl _, (.nil 3), (.nil 4), .refl _, .refl _, .refl _, .refl _, trivial⟩, .refl _, trivial⟩) rfl (by kernel_rfl) (by kernel_rfl)))
  ·have h := ifF hb_6 h
   refine AW.skip ?_
   refine hK_5 _ ?_
   refine AW.srwK (fun Q_7 hQ_7 => ?_)
   refine RW.au fokW 1 [] ⟨[(4, .ptr 1 0), (17, .agg (cv25 x))], [(1, .var 83 [.d (I 0), .d (I 0), .d (I 0), .d (I 0), .d (.nilSl), .d (I 0), .d (I 0), .d (I 0), .d (I 0), .d (.nilSl), .d (.nilSl), .d (I 0), .d (I 0), .d (I 0), .d (.nilMap)])], 2, Fr.emp, [], 0⟩ (by kernel_rfl) ?_
   obtain ⟨⟨r0B, r0T, r0L, m2⟩, hx_8, h⟩ := bsome h
   refine RW.one fokW (r_callS (zr := []) [] trivial rfl (k61 x _ hx_8) trivial rfl rfl ⟨.refl _, trivial⟩ rfl rfl rfl (r_end ?_))
   refine RW.au fokW 2 [] ⟨[(4, .ptr 1 0), (7, .ptr 5 0)], [(5, .var 83 (bkV r0B r0T r0L (.map 4))), (4, .mp (List.map m94_34 m2)), (1, .var 83 [.d (I 0), .d (I 0), .d (I 0), .d (I 0), .d (.nilSl), .d (I 0), .d (I 0), .d (I 0), .d (I 0), .d (.nilSl), .d (.nilSl), .d (I 0), .d (I 0), .d (I 0), .d (.nilMap)])], 6, Fr.emp, [], 0⟩ (by kernel_rfl) ?_
   refine RW.nil ?_
   refine hQ_7 _ ?_
   refine AW.seqK (fun K_9 hK_9 => ?_)
   refine AW.srwK (fun Q_10 hQ_10 => ?_)
   refine RW.au fokW 2 [] ⟨[(4, .ptr 1 0), (7, .ptr 5 0), (20, .d (.sl 4 (List.map e92 r0T)))], [(5, .var 83 (bkV r0B r0T r0L (.map 4))), (4, .mp (List.map m94_34 m2)), (1, .var 83 [.d (I 0), .d (I 0), .d (I 0), .d (I 0), .d (.nilSl), .d (I 0), .d (I 0), .d (I 0), .d (I 0), .d (.nilSl), .d (.nilSl), .d (I 0), .d (I 0), .d (I 0), .d (.nilMap)])], 6, Fr.emp, [], 0⟩ (by kernel_rfl) ?_
   refine RW.one fokW (r_lenX trivial rfl lenm (r_end ?_))
   refine RW.au fokW 1 [] ⟨[(4, .ptr 1 0), (7, .ptr 5 0), (22, .d (.bool (decide ((r0T.length : Int) = 0))))], [(5, .var 83 (bkV r0B r0T r0L (.map 4))), (4, .mp (List.map m94_34 m2)), (1, .var 83 [.d (I 0), .d (I 0), .d (I 0), .d (I 0), .d (.nilSl), .d (I 0), .d (I 0), .d (I 0), .d (I 0), .d (.nilSl), .d (.nilSl), .d (I 0), .d (I 0), .d (I 0), .d (.nilMap)])], 6, Fr.emp, [], 0⟩ (by kernel_rfl) ?_
   refine RW.nil ?_
   refine hQ_10 _ ?_
   refine AW.cond rfl (fun hb_11 => ?_) (fun hb_11 => ?_)
   ·have h := ifT hb_11 h
    refine AW.sa fokW [] ⟨[(4, .ptr 1 0), (5, .d (I 22))], [(1, .var 83 (bkV r0B r0T r0L (.map 4))), (4, .mp (List.map m94_34 m2))], 6, Fr.emp, [], 0⟩ (by kernel_rfl) ?_
    obtain rfl := Option.some.inj h
    exact AW.ret (hR_0 _ (retX (.cons (.agg rfl rfl (Nat.le_of_ble_eq_true rfl)) (.cons (.tmp rfl) .nil)) (.refl _) rfl (by kernel_rfl) (by kernel_rfl)))
   ·have h := ifF hb_11 h
    refine AW.skip ?_
    refine hK_9 _ ?_
    refine AW.sa fokW [] ⟨[(4, .ptr 1 0), (5, .d (I 0))], [(1, .var 83 (bkV r0B r0T r0L (.map 4))), (4, .mp (List.map m94_34 m2))], 6, Fr.emp, [], 0⟩ (by kernel_rfl) ?_
    obtain rfl := Option.some.inj h
    exact AW.ret (hR_0 _ (retX (.cons (.agg rfl rfl (Nat.le_of_ble_eq_true rfl)) (.cons (.tmp rfl) .nil)) (.refl _) rfl (by kernel_rfl) (by kernel_rfl)))
def g20_20 (weight : Int) (lean : Int) (Kind1 : Int) (Front1 : Int) (Back1 : Int) (Radius1 : Int) (Parts1 : List StandPart) (Along1 : Int) (High1 : Int) (Lean_1 : Int) (Limit1 : Int) (Trials1 : List StandTrial) (truths1 : List (Nat → Int)) (weight2 : Int) (along1 : Int) (high1 : Int) : Int → (Nat → Int) → Int → Option Int := fun v p many => (g70 (StandBook.mk Kind1 Front1 Back1 Radius1 Parts1 Along1 High1 Lean_1 Limit1 Trials1) truths1 (Stand_load.mk weight2 along1 high1) p (Stand_child.mk weight lean)).bind fun r0_4 => bif r0_4 then (some (wr (many + 1))) else (some many)
def g20 (x : StandBook) (weight : Int) (lean : Int) : Option (Int × Int) := ((g68 x weight).bind fun r0_1 => bif r0_1 then ((g69 x lean).bind fun r0_1_1 => (g67 x r0_1_1).bind fun r_8 => match r_8 with | .next (r0B5, r0T5, r0L5, r1_2) => (must (decide (r1_2 ≠ 0))).bind fun _ => some (.next (r1_2, r0B5.Kind, r0B5.Front, r0B5.Back, r0B5.Radius, r0B5.Parts, r0B5.Along, r0B5.High, r0B5.Lean_, r0B5.Limit, r0B5.Trials, r0T5, r0L5.weight, r0L5.along, r0L5.high)) | .brk (r0B6, r0T6, r0L6, r1_3, m4_1) => some (.brk (r1_3, r0B6.Kind, r0B6.Front, r0B6.Back, r0B6.Radius, r0B6.Parts, r0B6.Along, r0B6.High, r0B6.Lean_, r0B6.Limit, r0B6.Trials, r0T6, r0L6.weight, r0L6.along, r0L6.high, m4_1))) else ((g67 x false).bind fun r_11 => match r_11 with | .next (r0B5_1, r0T5_1, r0L5_1, r1_2_1) => (must (decide (r1_2_1 ≠ 0))).bind fun _ => some (.next (r1_2_1, r0B5_1.Kind, r0B5_1.Front, r0B5_1.Back, r0B5_1.Radius, r0B5_1.Parts, r0B5_1.Along, r0B5_1.High, r0B5_1.Lean_, r0B5_1.Limit, r0B5_1.Trials, r0T5_1, r0L5_1.weight, r0L5_1.along, r0L5_1.high)) | .brk (r0B6_1, r0T6_1, r0L6_1, r1_3_1, m4_1_1) => some (.brk (r1_3_1, r0B6_1.Kind, r0B6_1.Front, r0B6_1.Back, r0B6_1.Radius, r0B6_1.Parts, r0B6_1.Along, r0B6_1.High, r0B6_1.Lean_, r0B6_1.Limit, r0B6_1.Trials, r0T6_1, r0L6_1.weight, r0L6_1.along, r0L6_1.high, m4_1_1))) : Option (Ctl (Int × Int × Int × Int × Int × (List StandPart) × Int × Int × Int × Int × (List StandTrial) × (List (Nat → Int)) × Int × Int × Int) (Int × Int × Int × Int × Int × (List StandPart) × Int × Int × Int × Int × (List StandTrial) × (List (Nat → Int)) × Int × Int × Int × (List (Stand_child × StandRatio))))).bind fun j_1 => match j_1 with | .next (e, Kind, Front, Back, Radius, Parts, Along, High, Lean_, Limit, Trials, truths, weight1, along, high) => (must (decide (e ≠ 0))).bind fun _ => some (0, e) | .brk (e1, Kind1, Front1, Back1, Radius1, Parts1, Along1, High1, Lean_1, Limit1, Trials1, truths1, weight2, along1, high1, m) => bif (decide (e1 ≠ 0)) then (some (0, e1)) else ((eachS (g20_20 weight lean Kind1 Front1 Back1 Radius1 Parts1 Along1 High1 Lean_1 Limit1 Trials1 truths1 weight2 along1 high1) truths1 0 0).bind fun many => bif (decide (many = 0)) then (some (0, 0)) else (bif (decide (many = (truths1.length : Int))) then (some (2, 0)) else (some (1, 0))))
theorem k20 (x : StandBook) (weight : Int) (lean : Int) (r : Int × Int) (h : g20 x weight lean = some r) : SCall Tryd.prog Gs 20 [.agg (cv25 x), .d (I weight), .d (I lean)] [] 0 Fr.emp (match r with | (r0_6, r1_6) => .tup [.d (I r0_6), .d (I r1_6)]) [] 0 Fr.emp := by
 unfold g20 at h
 refine SCall.mkK Tryd.func20 c20 rfl rfl (by kernel_rfl) (fun Q_0 hR_0 hN_0 => ?_)
 refine AW.sa fokW [] ⟨[(1, .d (I weight)), (2, .d (I lean)), (3, .ptr 0 0)], [(0, .var 25 (cv25 x))], 1, Fr.emp, [], 0⟩ (by kernel_rfl) ?_
 obtain ⟨c_1, hx_1, h⟩ := bsome h
 refine AW.jnSK (fun (j : Ctl (Int × Int × Int × Int × Int × (List StandPart) × Int × Int × Int × Int × (List StandTrial) × (List (Nat → Int)) × Int × Int × Int) (Int × Int × Int × Int × Int × (List StandPart) × Int × Int × Int × Int × (List StandTrial) × (List (Nat → Int)) × Int × Int × Int × (List (Stand_child × StandRatio)))) => match j with | .next (e, Kind, Front, Back, Radius, Parts, Along, High, Lean_, Limit, Trials, truths, weight1, along, high) => ⟨[(1, .d (I weight)), (2, .d (I lean)), (8, .ptr 1 0), (9, .d (I e))], [(1, .var 83 [.d (I Kind), .d (I Front), .d (I Back), .d (I Radius), .d (.sl 4 (List.map e70 Parts)), .d (I Along), .d (I High), .d (I Lean_), .d (I Limit), .d (.sl 3 (List.map e65 Trials)), .d (.sl 4 (List.map e92 truths)), .d (I weight1), .d (I along), .d (I high), .d (.nilMap)])], 2, Fr.emp, [], 0⟩ | .brk (e1, Kind1, Front1, Back1, Radius1, Parts1, Along1, High1, Lean_1, Limit1, Trials1, truths1, weight2, along1, high1, m) => ⟨[(1, .d (I weight)), (2, .d (I lean)), (8, .ptr 6 0), (9, .d (I e1))], [(6, .var 83 [.d (I Kind1), .d (I Front1), .d (I Back1), .d (I Radius1), .d (.sl 4 (List.map e70 Parts1)), .d (I Along1), .d (I High1), .d (I Lean_1), .d (I Limit1), .d (.sl 3 (List.map e65 Trials1)), .d (.sl 4 (List.map e92 truths1)), .d (I weight2), .d (I along1), .d (I high1), .map 5]), (5, .mp (List.map m94_34 m))], 7, Fr.emp, [], 0⟩) (c := c_1) (fun K_1 hK_1 => ?_) ?_
 ·have h := hx_1
  refine AW.drw fokW ?_
  refine RunC.auX 3 ⟨[(1, .d (I weight)), (2, .d (I lean)), (3, .ptr 0 0), (15, .agg (cv25 x)), (16, .agg (cv25 x)), (17, .d (I weight))], [(0, .var 25 (cv25 x))], 1, Fr.emp, [], 0⟩ (by kernel_rfl) ?_
  obtain ⟨r0_1, hx_3, h⟩ := bsome h
  refine r_call trivial rfl (k68 x weight _ hx_3) rfl rfl ?_
  refine RunC.auX 1 ⟨[(1, .d (I weight)), (2, .d (I lean)), (3, .ptr 0 0), (15, .agg (cv25 x)), (19, .d (.bool r0_1))], [(0, .var 25 (cv25 x))], 1, Fr.emp, [], 0⟩ (by kernel_rfl) ?_
  refine r_split 19 rfl (fun hb_4 => ?_) (fun hb_4 => ?_)
  ·have h := ifT hb_4 h
   refine RunC.auX 2 ⟨[(1, .d (I weight)), (2, .d (I lean)), (15, .agg (cv25 x)), (19, .d (.bool true)), (20, .agg (cv25 x)), (21, .d (I lean))], [(0, .var 25 (cv25 x))], 1, Fr.emp, [], 0⟩ (by kernel_rfl) ?_
   obtain ⟨r0_1_1, hx_5, h⟩ := bsome h
   refine r_call rfl rfl (k69 x lean _ hx_5) rfl rfl ?_
   refine RunC.auX 1 ⟨[(1, .d (I weight)), (2, .d (I lean)), (15, .agg (cv25 x)), (23, .d (.bool r0_1_1))], [(0, .var 25 (cv25 x))], 1, Fr.emp, [], 0⟩ (by kernel_rfl) ?_
   obtain ⟨r_8, hx_6, h⟩ := bsome h
   rcases r_8 with (⟨r0B5, r0T5, r0L5, r1_2⟩ | (⟨r0B6, r0T6, r0L6, r1_3, m4_1⟩))
   ·refine r_callS (zr := []) [] trivial rfl (k67 x r0_1_1 _ hx_6) trivial rfl rfl ⟨.refl _, .refl _, trivial⟩ rfl rfl rfl ?_
    obtain ⟨_, hv_7, h⟩ := bsome h
    have hf_8 := must_ok hv_7
    refine RunC.auX 6 ⟨[(1, .d (I weight)), (2, .d (I lean)), (8, .ptr 1 0), (9, .d (I r1_2))], [(1, .var 83 (bkV r0B5 r0T5 r0L5 (.d (.nilMap)))), (0, .var 25 (cv25 x))], 2, Fr.emp, [], 0⟩ (by kernel_rfl) ?_
    refine RunC.fin ⟨[(1, .d (I weight)), (2, .d (I lean)), (8, .ptr 1 0), (9, .d (I r1_2))], [(1, .var 83 (bkV r0B5 r0T5 r0L5 (.d (.nilMap))))], 2, Fr.emp, [], 0⟩ (by kernel_rfl) (by kernel_rfl) ?_
    obtain rfl := Option.some.inj h
    exact hK_1 _ (Can.kp (by kernel_rfl))
   ·refine r_callS (zr := []) [] trivial rfl (k67 x r0_1_1 _ hx_6) trivial rfl rfl ⟨.refl _, .refl _, trivial⟩ rfl rfl rfl ?_
    refine RunC.auX 6 ⟨[(1, .d (I weight)), (2, .d (I lean)), (8, .ptr 6 0), (9, .d (I r1_3))], [(6, .var 83 (bkV r0B6 r0T6 r0L6 (.map 5))), (5, .mp (List.map m94_34 m4_1)), (0, .var 25 (cv25 x))], 7, Fr.emp, [], 0⟩ (by kernel_rfl) ?_
    refine RunC.fin ⟨[(1, .d (I weight)), (2, .d (I lean)), (8, .ptr 6 0), (9, .d (I r1_3))], [(6, .var 83 (bkV r0B6 r0T6 r0L6 (.map 5))), (5, .mp (List.map m94_34 m4_1))], 7, Fr.emp, [], 0⟩ (by kernel_rfl) (by kernel_rfl) ?_
    obtain rfl := Option.some.inj h
    exact hK_1 _ (Can.kp (by kernel_rfl))
  ·have h := ifF hb_4 h
   refine RunC.auX 4 ⟨[(1, .d (I weight)), (2, .d (I lean)), (15, .agg (cv25 x)), (23, .d (.bool false))], [(0, .var 25 (cv25 x))], 1, Fr.emp, [], 0⟩ (by kernel_rfl) ?_
   obtain ⟨r_11, hx_9, h⟩ := bsome h
   rcases r_11 with (⟨r0B5_1, r0T5_1, r0L5_1, r1_2_1⟩ | (⟨r0B6_1, r0T6_1, r0L6_1, r1_3_1, m4_1_1⟩))
   ·refine r_callS (zr := []) [] trivial rfl (k67 x false _ hx_9) trivial rfl rfl ⟨.refl _, .refl _, trivial⟩ rfl rfl rfl ?_
    obtain ⟨_, hv_10, h⟩ := bsome h
    have hf_11 := must_ok hv_10
    refine RunC.auX 6 ⟨[(1, .d (I weight)), (2, .d (I lean)), (8, .ptr 1 0), (9, .d (I r1_2_1))], [(1, .var 83 (bkV r0B5_1 r0T5_1 r0L5_1 (.d (.nilMap)))), (0, .var 25 (cv25 x))], 2, Fr.emp, [], 0⟩ (by kernel_rfl) ?_
    refine RunC.fin ⟨[(1, .d (I weight)), (2, .d (I lean)), (8, .ptr 1 0), (9, .d (I r1_2_1))], [(1, .var 83 (bkV r0B5_1 r0T5_1 r0L5_1 (.d (.nilMap))))], 2, Fr.emp, [], 0⟩ (by kernel_rfl) (by kernel_rfl) ?_
    obtain rfl := Option.some.inj h
    exact hK_1 _ (Can.kp (by kernel_rfl))
   ·refine r_callS (zr := []) [] trivial rfl (k67 x false _ hx_9) trivial rfl rfl ⟨.refl _, .refl _, trivial⟩ rfl rfl rfl ?_
    refine RunC.auX 6 ⟨[(1, .d (I weight)), (2, .d (I lean)), (8, .ptr 6 0), (9, .d (I r1_3_1))], [(6, .var 83 (bkV r0B6_1 r0T6_1 r0L6_1 (.map 5))), (5, .mp (List.map m94_34 m4_1_1)), (0, .var 25 (cv25 x))], 7, Fr.emp, [], 0⟩ (by kernel_rfl) ?_
    refine RunC.fin ⟨[(1, .d (I weight)), (2, .d (I lean)), (8, .ptr 6 0), (9, .d (I r1_3_1))], [(6, .var 83 (bkV r0B6_1 r0T6_1 r0L6_1 (.map 5))), (5, .mp (List.map m94_34 m4_1_1))], 7, Fr.emp, [], 0⟩ (by kernel_rfl) (by kernel_rfl) ?_
    obtain rfl := Option.some.inj h
    exact hK_1 _ (Can.kp (by kernel_rfl))
 ·rcases c_1 with (⟨e, Kind, Front, Back, Radius, Parts, Along, High, Lean_, Limit, Trials, truths, weight1, along, high⟩ | ⟨e1, Kind1, Front1, Back1, Radius1, Parts1, Along1, High1, Lean_1, Limit1, Trials1, truths1, weight2, along1, high1, m⟩)
  ·obtain ⟨_, hv_12, h⟩ := bsome h
   have hf_13 := must_ok hv_12
   refine AW.seqK (fun K_14 hK_14 => ?_)
   refine AW.sa fokW [] ⟨[(1, .d (I weight)), (2, .d (I lean)), (8, .ptr 1 0), (9, .d (I e)), (28, .d (.bool (decide (e ≠ 0))))], [(1, .var 83 [.d (I Kind), .d (I Front), .d (I Back), .d (I Radius), .d (.sl 4 (List.map e70 Parts)), .d (I Along), .d (I High), .d (I Lean_), .d (I Limit), .d (.sl 3 (List.map e65 Trials)), .d (.sl 4 (List.map e92 truths)), .d (I weight1), .d (I along), .d (I high), .d (.nilMap)])], 2, Fr.emp, [], 0⟩ (by kernel_rfl) ?_
   refine AW.cond rfl (fun hb_15 => ?_) (fun hb_15 => False.elim (by rw [hf_13] at hb_15; cases hb_15))
   refine AW.sa fokW [] ⟨[(6, .d (I 0)), (7, .d (I e))], [], 2, Fr.emp, [], 0⟩ (by kernel_rfl) ?_
   obtain rfl := Option.some.inj h
   exact AW.ret (hR_0 _ (retX (.cons (.tmp rfl) (.cons (.tmp rfl) .nil)) (.refl _) rfl (by kernel_rfl) (by kernel_rfl)))
  ·refine AW.seqK (fun K_16 hK_16 => ?_)
   refine AW.sa fokW [] ⟨[(1, .d (I weight)), (2, .d (I lean)), (8, .ptr 6 0), (9, .d (I e1)), (28, .d (.bool (decide (e1 ≠ 0))))], [(6, .var 83 [.d (I Kind1), .d (I Front1), .d (I Back1), .d (I Radius1), .d (.sl 4 (List.map e70 Parts1)), .d (I Along1), .d (I High1), .d (I Lean_1), .d (I Limit1), .d (.sl 3 (List.map e65 Trials1)), .d (.sl 4 (List.map e92 truths1)), .d (I weight2), .d (I along1), .d (I high1), .map 5]), (5, .mp (List.map m94_34 m))], 7, Fr.emp, [], 0⟩ (by kernel_rfl) ?_
   refine AW.cond rfl (fun hb_17 => ?_) (fun hb_17 => ?_)
   ·have h := ifT hb_17 h
    refine AW.sa fokW [] ⟨[(6, .d (I 0)), (7, .d (I e1))], [], 7, Fr.emp, [], 0⟩ (by kernel_rfl) ?_
    obtain rfl := Option.some.inj h
    exact AW.ret (hR_0 _ (retX (.cons (.tmp rfl) (.cons (.tmp rfl) .nil)) (.refl _) rfl (by kernel_rfl) (by kernel_rfl)))
   ·have h := ifF hb_17 h
    refine AW.skip ?_
    refine hK_16 _ ?_
    refine AW.sa fokW [] ⟨[(1, .d (I weight)), (2, .d (I lean)), (8, .ptr 6 0), (10, .d (I 0)), (11, .clo 70 [.agg [.d (I Kind1), .d (I Front1), .d (I Back1), .d (I Radius1), .d (.sl 4 (List.map e70 Parts1)), .d (I Along1), .d (I High1), .d (I Lean_1), .d (I Limit1), .d (.sl 3 (List.map e65 Trials1)), .d (.sl 4 (List.map e92 truths1)), .d (I weight2), .d (I along1), .d (I high1), .map 5]] [])], [(6, .var 83 [.d (I Kind1), .d (I Front1), .d (I Back1), .d (I Radius1), .d (.sl 4 (List.map e70 Parts1)), .d (I Along1), .d (I High1), .d (I Lean_1), .d (I Limit1), .d (.sl 3 (List.map e65 Trials1)), .d (.sl 4 (List.map e92 truths1)), .d (I weight2), .d (I along1), .d (I high1), .map 5]), (5, .mp (List.map m94_34 m))], 7, Fr.emp, [], 0⟩ (by kernel_rfl) ?_
    refine AW.seqK (fun K_18 hK_18 => ?_)
    refine AW.srwK (fun Q_19 hQ_19 => ?_)
    refine RW.au fokW 2 [] ⟨[(1, .d (I weight)), (2, .d (I lean)), (8, .ptr 6 0), (10, .d (I 0)), (11, .clo 70 [.agg [.d (I Kind1), .d (I Front1), .d (I Back1), .d (I Radius1), .d (.sl 4 (List.map e70 Parts1)), .d (I Along1), .d (I High1), .d (I Lean_1), .d (I Limit1), .d (.sl 3 (List.map e65 Trials1)), .d (.sl 4 (List.map e92 truths1)), .d (I weight2), .d (I along1), .d (I high1), .map 5]] []), (33, .d (.sl 4 (List.map e92 truths1)))], [(6, .var 83 [.d (I Kind1), .d (I Front1), .d (I Back1), .d (I Radius1), .d (.sl 4 (List.map e70 Parts1)), .d (I Along1), .d (I High1), .d (I Lean_1), .d (I Limit1), .d (.sl 3 (List.map e65 Trials1)), .d (.sl 4 (List.map e92 truths1)), .d (I weight2), .d (I along1), .d (I high1), .map 5]), (5, .mp (List.map m94_34 m))], 7, Fr.emp, [], 0⟩ (by kernel_rfl) ?_
    refine RW.one fokW (r_lenX trivial rfl lenm (r_end ?_))
    refine RW.au fokW 1 [] ⟨[(1, .d (I weight)), (2, .d (I lean)), (8, .ptr 6 0), (10, .d (I 0)), (11, .clo 70 [.agg [.d (I Kind1), .d (I Front1), .d (I Back1), .d (I Radius1), .d (.sl 4 (List.map e70 Parts1)), .d (I Along1), .d (I High1), .d (I Lean_1), .d (I Limit1), .d (.sl 3 (List.map e65 Trials1)), .d (.sl 4 (List.map e92 truths1)), .d (I weight2), .d (I along1), .d (I high1), .map 5]] []), (33, .d (.sl 4 (List.map e92 truths1))), (34, .d (I (truths1.length : Int))), (35, .d (I 0))], [(6, .var 83 [.d (I Kind1), .d (I Front1), .d (I Back1), .d (I Radius1), .d (.sl 4 (List.map e70 Parts1)), .d (I Along1), .d (I High1), .d (I Lean_1), .d (I Limit1), .d (.sl 3 (List.map e65 Trials1)), .d (.sl 4 (List.map e92 truths1)), .d (I weight2), .d (I along1), .d (I high1), .map 5]), (5, .mp (List.map m94_34 m))], 7, Fr.emp, [], 0⟩ (by kernel_rfl) ?_
    refine RW.nil ?_
    refine hQ_19 _ ?_
    refine AW.block ?_
    refine AW.sln (t := 33) rfl (fun hN_20 => ?_)
    rw [List.length_map] at hN_20
    obtain ⟨out_20, hx_20, h⟩ := bsome h
    refine AW.evSK (fun (v : Int) (many : Int) => ⟨[(1, .d (I weight)), (2, .d (I lean)), (8, .ptr 6 0), (10, .d (I many)), (11, .clo 70 [.agg [.d (I Kind1), .d (I Front1), .d (I Back1), .d (I Radius1), .d (.sl 4 (List.map e70 Parts1)), .d (I Along1), .d (I High1), .d (I Lean_1), .d (I Limit1), .d (.sl 3 (List.map e65 Trials1)), .d (.sl 4 (List.map e92 truths1)), .d (I weight2), .d (I along1), .d (I high1), .map 5]] []), (33, .d (.sl 4 (List.map e92 truths1))), (34, .d (I (truths1.length : Int))), (35, .d (I v))], [(6, .var 83 [.d (I Kind1), .d (I Front1), .d (I Back1), .d (I Radius1), .d (.sl 4 (List.map e70 Parts1)), .d (I Along1), .d (I High1), .d (I Lean_1), .d (I Limit1), .d (.sl 3 (List.map e65 Trials1)), .d (.sl 4 (List.map e92 truths1)), .d (I weight2), .d (I along1), .d (I high1), .map 5]), (5, .mp (List.map m94_34 m))], 7, Fr.emp, [], 0⟩) (g20_20 weight lean Kind1 Front1 Back1 Radius1 Parts1 Along1 High1 Lean_1 Limit1 Trials1 truths1 weight2 along1 high1) hx_20 (Can.kp (by kernel_rfl)) (fun v p many hi_20 hl_20 hp_20 c_20 h K_20 hK_20 => ?_) (fun v many hi_20 hl_20 hout => ?_)
    ·unfold g20_20 at h
     refine AW.sa fokW [] ⟨[(1, .d (I weight)), (2, .d (I lean)), (8, .ptr 6 0), (10, .d (I many)), (11, .clo 70 [.agg [.d (I Kind1), .d (I Front1), .d (I Back1), .d (I Radius1), .d (.sl 4 (List.map e70 Parts1)), .d (I Along1), .d (I High1), .d (I Lean_1), .d (I Limit1), .d (.sl 3 (List.map e65 Trials1)), .d (.sl 4 (List.map e92 truths1)), .d (I weight2), .d (I along1), .d (I high1), .map 5]] []), (33, .d (.sl 4 (List.map e92 truths1))), (34, .d (I (truths1.length : Int))), (35, .d (I v)), (36, .d (.bool (decide (v < (truths1.length : Int)))))], [(6, .var 83 [.d (I Kind1), .d (I Front1), .d (I Back1), .d (I Radius1), .d (.sl 4 (List.map e70 Parts1)), .d (I Along1), .d (I High1), .d (I Lean_1), .d (I Limit1), .d (.sl 3 (List.map e65 Trials1)), .d (.sl 4 (List.map e92 truths1)), .d (I weight2), .d (I along1), .d (I high1), .map 5]), (5, .mp (List.map m94_34 m))], 7, Fr.emp, [], 0⟩ (by kernel_rfl) ?_
     refine AW.seqK (fun K_21 hK_21 => ?_)
     refine AW.cond rfl (fun hb_22 => ?_) (fun hb_22 => False.elim (by have := of_decide_eq_false hb_22; omega))
     refine AW.skip ?_
     refine hK_21 _ ?_
     refine AW.seqK (fun K_23 hK_23 => ?_)
     refine AW.block ?_
     refine AW.srwK (fun Q_24 hQ_24 => ?_)
     refine RW.one fokW (r_iaD trivial rfl rfl hi_20 (row := e92 p) (mapget hp_20) (r_end ?_))
     refine RW.au fokW 3 [] ⟨[(1, .d (I weight)), (2, .d (I lean)), (8, .ptr 6 0), (10, .d (I many)), (11, .clo 70 [.agg [.d (I Kind1), .d (I Front1), .d (I Back1), .d (I Radius1), .d (.sl 4 (List.map e70 Parts1)), .d (I Along1), .d (I High1), .d (I Lean_1), .d (I Limit1), .d (.sl 3 (List.map e65 Trials1)), .d (.sl 4 (List.map e92 truths1)), .d (I weight2), .d (I along1), .d (I high1), .map 5]] []), (13, .ptr 7 0), (33, .d (.sl 4 (List.map e92 truths1))), (34, .d (I (truths1.length : Int))), (35, .d (I v))], [(7, .var 92 [.d (I (p 0)), .d (I (p 1)), .d (I (p 2)), .d (I (p 3))]), (6, .var 83 [.d (I Kind1), .d (I Front1), .d (I Back1), .d (I Radius1), .d (.sl 4 (List.map e70 Parts1)), .d (I Along1), .d (I High1), .d (I Lean_1), .d (I Limit1), .d (.sl 3 (List.map e65 Trials1)), .d (.sl 4 (List.map e92 truths1)), .d (I weight2), .d (I along1), .d (I high1), .map 5]), (5, .mp (List.map m94_34 m))], 8, Fr.emp, [], 0⟩ (by kernel_rfl) ?_
     refine RW.nil ?_
     refine hQ_24 _ ?_
     refine AW.srwK (fun Q_25 hQ_25 => ?_)
     refine RW.au fokW 5 [] ⟨[(1, .d (I weight)), (2, .d (I lean)), (8, .ptr 6 0), (10, .d (I many)), (11, .clo 70 [.agg [.d (I Kind1), .d (I Front1), .d (I Back1), .d (I Radius1), .d (.sl 4 (List.map e70 Parts1)), .d (I Along1), .d (I High1), .d (I Lean_1), .d (I Limit1), .d (.sl 3 (List.map e65 Trials1)), .d (.sl 4 (List.map e92 truths1)), .d (I weight2), .d (I along1), .d (I high1), .map 5]] []), (33, .d (.sl 4 (List.map e92 truths1))), (34, .d (I (truths1.length : Int))), (35, .d (I v)), (39, .clo 70 [.agg [.d (I Kind1), .d (I Front1), .d (I Back1), .d (I Radius1), .d (.sl 4 (List.map e70 Parts1)), .d (I Along1), .d (I High1), .d (I Lean_1), .d (I Limit1), .d (.sl 3 (List.map e65 Trials1)), .d (.sl 4 (List.map e92 truths1)), .d (I weight2), .d (I along1), .d (I high1), .map 5]] []), (40, .agg [.d (I (p 0)), .d (I (p 1)), .d (I (p 2)), .d (I (p 3))]), (43, .agg [.d (I weight), .d (I lean)])], [(6, .var 83 [.d (I Kind1), .d (I Front1), .d (I Back1), .d (I Radius1), .d (.sl 4 (List.map e70 Parts1)), .d (I Along1), .d (I High1), .d (I Lean_1), .d (I Limit1), .d (.sl 3 (List.map e65 Trials1)), .d (.sl 4 (List.map e92 truths1)), .d (I weight2), .d (I along1), .d (I high1), .map 5]), (5, .mp (List.map m94_34 m))], 8, Fr.emp, [], 0⟩ (by kernel_rfl) ?_
     obtain ⟨r0_4, hx_26, h⟩ := bsome h
     refine RW.one fokW (r_callvZ (zr := []) trivial rfl (.clo _ _ _) (by kernel_rfl) rfl (k70 (StandBook.mk Kind1 Front1 Back1 Radius1 Parts1 Along1 High1 Lean_1 Limit1 Trials1) truths1 (Stand_load.mk weight2 along1 high1) p (Stand_child.mk weight lean) _ hx_26) trivial ⟨(Frz.agg_of ⟨.refl _, .refl _, .refl _, .refl _, .refl _, .refl _, .refl _, .refl _, .refl _, .refl _, .refl _, .refl _, .refl _, .refl _, (.opq rfl (by intro _ h; cases h)), trivial⟩), .refl _, .refl _, trivial⟩ rfl rfl rfl rfl (r_end ?_))
     refine RW.nil ?_
     refine hQ_25 _ ?_
     refine AW.cond rfl (fun hb_27 => ?_) (fun hb_27 => ?_)
     ·have h := ifT hb_27 h
      refine AW.ra fokW [] ⟨[(1, .d (I weight)), (2, .d (I lean)), (8, .ptr 6 0), (10, .d (I (wr (many + 1)))), (11, .clo 70 [.agg [.d (I Kind1), .d (I Front1), .d (I Back1), .d (I Radius1), .d (.sl 4 (List.map e70 Parts1)), .d (I Along1), .d (I High1), .d (I Lean_1), .d (I Limit1), .d (.sl 3 (List.map e65 Trials1)), .d (.sl 4 (List.map e92 truths1)), .d (I weight2), .d (I along1), .d (I high1), .map 5]] []), (33, .d (.sl 4 (List.map e92 truths1))), (34, .d (I (truths1.length : Int))), (35, .d (I v))], [(6, .var 83 [.d (I Kind1), .d (I Front1), .d (I Back1), .d (I Radius1), .d (.sl 4 (List.map e70 Parts1)), .d (I Along1), .d (I High1), .d (I Lean_1), .d (I Limit1), .d (.sl 3 (List.map e65 Trials1)), .d (.sl 4 (List.map e92 truths1)), .d (I weight2), .d (I along1), .d (I high1), .map 5]), (5, .mp (List.map m94_34 m))], 8, Fr.emp, [], 0⟩ (by kernel_rfl) ?_
      refine hK_23 _ ?_
      refine AW.ra fokW [] ⟨[(1, .d (I weight)), (2, .d (I lean)), (8, .ptr 6 0), (10, .d (I (wr (many + 1)))), (11, .clo 70 [.agg [.d (I Kind1), .d (I Front1), .d (I Back1), .d (I Radius1), .d (.sl 4 (List.map e70 Parts1)), .d (I Along1), .d (I High1), .d (I Lean_1), .d (I Limit1), .d (.sl 3 (List.map e65 Trials1)), .d (.sl 4 (List.map e92 truths1)), .d (I weight2), .d (I along1), .d (I high1), .map 5]] []), (33, .d (.sl 4 (List.map e92 truths1))), (34, .d (I (truths1.length : Int))), (35, .d (I (wr (v + 1))))], [(6, .var 83 [.d (I Kind1), .d (I Front1), .d (I Back1), .d (I Radius1), .d (.sl 4 (List.map e70 Parts1)), .d (I Along1), .d (I High1), .d (I Lean_1), .d (I Limit1), .d (.sl 3 (List.map e65 Trials1)), .d (.sl 4 (List.map e92 truths1)), .d (I weight2), .d (I along1), .d (I high1), .map 5]), (5, .mp (List.map m94_34 m))], 8, Fr.emp, [], 0⟩ (by kernel_rfl) ?_
      obtain rfl := Option.some.inj h
      have ew : wr (v + 1) = v + 1 := inext (N := (truths1.length : Int)) (by omega) (by omega) (by omega)
      rw [ew]
      exact hK_20 _ (Can.kp (by kernel_rfl))
     ·have h := ifF hb_27 h
      refine AW.skip ?_
      refine hK_23 _ ?_
      refine AW.ra fokW [] ⟨[(1, .d (I weight)), (2, .d (I lean)), (8, .ptr 6 0), (10, .d (I many)), (11, .clo 70 [.agg [.d (I Kind1), .d (I Front1), .d (I Back1), .d (I Radius1), .d (.sl 4 (List.map e70 Parts1)), .d (I Along1), .d (I High1), .d (I Lean_1), .d (I Limit1), .d (.sl 3 (List.map e65 Trials1)), .d (.sl 4 (List.map e92 truths1)), .d (I weight2), .d (I along1), .d (I high1), .map 5]] []), (33, .d (.sl 4 (List.map e92 truths1))), (34, .d (I (truths1.length : Int))), (35, .d (I (wr (v + 1))))], [(6, .var 83 [.d (I Kind1), .d (I Front1), .d (I Back1), .d (I Radius1), .d (.sl 4 (List.map e70 Parts1)), .d (I Along1), .d (I High1), .d (I Lean_1), .d (I Limit1), .d (.sl 3 (List.map e65 Trials1)), .d (.sl 4 (List.map e92 truths1)), .d (I weight2), .d (I along1), .d (I high1), .map 5]), (5, .mp (List.map m94_34 m))], 8, Fr.emp, [], 0⟩ (by kernel_rfl) ?_
      obtain rfl := Option.some.inj h
      have ew : wr (v + 1) = v + 1 := inext (N := (truths1.length : Int)) (by omega) (by omega) (by omega)
      rw [ew]
      exact hK_20 _ (Can.kp (by kernel_rfl))
    ·subst hout
     refine AW.sa fokW [] ⟨[(1, .d (I weight)), (2, .d (I lean)), (8, .ptr 6 0), (10, .d (I many)), (11, .clo 70 [.agg [.d (I Kind1), .d (I Front1), .d (I Back1), .d (I Radius1), .d (.sl 4 (List.map e70 Parts1)), .d (I Along1), .d (I High1), .d (I Lean_1), .d (I Limit1), .d (.sl 3 (List.map e65 Trials1)), .d (.sl 4 (List.map e92 truths1)), .d (I weight2), .d (I along1), .d (I high1), .map 5]] []), (33, .d (.sl 4 (List.map e92 truths1))), (34, .d (I (truths1.length : Int))), (35, .d (I v)), (36, .d (.bool (decide (v < (truths1.length : Int)))))], [(6, .var 83 [.d (I Kind1), .d (I Front1), .d (I Back1), .d (I Radius1), .d (.sl 4 (List.map e70 Parts1)), .d (I Along1), .d (I High1), .d (I Lean_1), .d (I Limit1), .d (.sl 3 (List.map e65 Trials1)), .d (.sl 4 (List.map e92 truths1)), .d (I weight2), .d (I along1), .d (I high1), .map 5]), (5, .mp (List.map m94_34 m))], 7, Fr.emp, [], 0⟩ (by kernel_rfl) ?_
     refine AW.seqK (fun K_28 hK_28 => ?_)
     refine AW.cond rfl (fun hb_29 => False.elim (by have := of_decide_eq_true hb_29; omega)) (fun hb_29 => ?_)
     refine AW.exit ?_
     refine hK_18 _ ?_
     refine AW.seqK (fun K_30 hK_30 => ?_)
     refine AW.sa fokW [] ⟨[(8, .ptr 6 0), (48, .d (I many))], [(6, .var 83 [.d (I Kind1), .d (I Front1), .d (I Back1), .d (I Radius1), .d (.sl 4 (List.map e70 Parts1)), .d (I Along1), .d (I High1), .d (I Lean_1), .d (I Limit1), .d (.sl 3 (List.map e65 Trials1)), .d (.sl 4 (List.map e92 truths1)), .d (I weight2), .d (I along1), .d (I high1), .map 5]), (5, .mp (List.map m94_34 m))], 7, Fr.emp, [], 0⟩ (by kernel_rfl) ?_
     refine AW.block ?_
     refine AW.sa fokW [] ⟨[(8, .ptr 6 0), (48, .d (I many)), (49, .d (.bool (decide (many = 0))))], [(6, .var 83 [.d (I Kind1), .d (I Front1), .d (I Back1), .d (I Radius1), .d (.sl 4 (List.map e70 Parts1)), .d (I Along1), .d (I High1), .d (I Lean_1), .d (I Limit1), .d (.sl 3 (List.map e65 Trials1)), .d (.sl 4 (List.map e92 truths1)), .d (I weight2), .d (I along1), .d (I high1), .map 5]), (5, .mp (List.map m94_34 m))], 7, Fr.emp, [], 0⟩ (by kernel_rfl) ?_
     refine AW.cond rfl (fun hb_31 => ?_) (fun hb_31 => ?_)
     ·have h := ifT hb_31 h
      refine AW.sa fokW [] ⟨[(6, .d (I 0)), (7, .d (I 0))], [], 7, Fr.emp, [], 0⟩ (by kernel_rfl) ?_
      obtain rfl := Option.some.inj h
      exact AW.ret (hR_0 _ (retX (.cons (.tmp rfl) (.cons (.tmp rfl) .nil)) (.refl _) rfl (by kernel_rfl) (by kernel_rfl)))
     ·have h := ifF hb_31 h
      refine AW.srwK (fun Q_32 hQ_32 => ?_)
      refine RW.au fokW 2 [] ⟨[(48, .d (I many)), (53, .d (.sl 4 (List.map e92 truths1)))], [], 7, Fr.emp, [], 0⟩ (by kernel_rfl) ?_
      refine RW.one fokW (r_lenX trivial rfl lenm (r_end ?_))
      refine RW.au fokW 2 [] ⟨[(51, .d (.bool (decide (many = (truths1.length : Int)))))], [], 7, Fr.emp, [], 0⟩ (by kernel_rfl) ?_
      refine RW.nil ?_
      refine hQ_32 _ ?_
      refine AW.cond rfl (fun hb_33 => ?_) (fun hb_33 => ?_)
      ·have h := ifT hb_33 h
       refine AW.sa fokW [] ⟨[(6, .d (I 2)), (7, .d (I 0))], [], 7, Fr.emp, [], 0⟩ (by kernel_rfl) ?_
       obtain rfl := Option.some.inj h
       exact AW.ret (hR_0 _ (retX (.cons (.tmp rfl) (.cons (.tmp rfl) .nil)) (.refl _) rfl (by kernel_rfl) (by kernel_rfl)))
      ·have h := ifF hb_33 h
       refine AW.skip ?_
       refine hK_30 _ ?_
       refine AW.sa fokW [] ⟨[(6, .d (I 1)), (7, .d (I 0))], [], 7, Fr.emp, [], 0⟩ (by kernel_rfl) ?_
       obtain rfl := Option.some.inj h
       exact AW.ret (hR_0 _ (retX (.cons (.tmp rfl) (.cons (.tmp rfl) .nil)) (.refl _) rfl (by kernel_rfl) (by kernel_rfl)))
def g96  : Option Unit := some ()
theorem k96  (r : Unit) (h : g96 = some r) : SCall Tryd.prog Gs 96 [] [] 0 Fr.emp (.agg [.d (.fn 103)]) [] 0 Fr.emp := by
 unfold g96 at h
 refine SCall.mkK Tryd.func96 c96 rfl rfl (by kernel_rfl) (fun Q_0 hR_0 hN_0 => ?_)
 refine AW.sa fokW [] ⟨[(0, .ptr 0 0)], [(0, .var 123 [.d (.nilFn)])], 1, Fr.emp, [], 0⟩ (by kernel_rfl) ?_
 refine AW.sa fokW [] ⟨[(0, .ptr 0 0)], [(0, .var 123 [.d (.fn 103)])], 1, Fr.emp, [], 0⟩ (by kernel_rfl) ?_
 obtain rfl := Option.some.inj h
 exact AW.ret (hR_0 _ (retX (.cons (.agg rfl rfl (Nat.le_of_ble_eq_true rfl)) .nil) (.refl _) rfl (by kernel_rfl) (by kernel_rfl)))
def g103 (x : StandRatio) (y : StandRatio) : Option Bool := some (decide ((wr (x.Top * y.Bottom)) < (wr (y.Top * x.Bottom))))
theorem k103 (x : StandRatio) (y : StandRatio) (r : Bool) (h : g103 x y = some r) : SCall Tryd.prog Gs 103 [.agg [.d (I x.Top), .d (I x.Bottom)], .agg [.d (I y.Top), .d (I y.Bottom)]] [] 0 Fr.emp (.d (.bool r)) [] 0 Fr.emp := by
 unfold g103 at h
 refine SCall.mkK Tryd.func103 c103 rfl rfl (by kernel_rfl) (fun Q_0 hR_0 hN_0 => ?_)
 refine AW.sa fokW [] ⟨[(2, .ptr 0 0), (3, .ptr 1 0)], [(1, .var 34 [.d (I y.Top), .d (I y.Bottom)]), (0, .var 34 [.d (I x.Top), .d (I x.Bottom)])], 2, Fr.emp, [], 0⟩ (by kernel_rfl) ?_
 refine AW.sa fokW [] ⟨[(4, .d (.bool (decide ((wr (x.Top * y.Bottom)) < (wr (y.Top * x.Bottom))))))], [], 2, Fr.emp, [], 0⟩ (by kernel_rfl) ?_
 obtain rfl := Option.some.inj h
 exact AW.ret (hR_0 _ (retX (.cons (.tmp rfl) .nil) (.refl _) rfl (by kernel_rfl) (by kernel_rfl)))
def g97_2 : (Int × Int) → Option (Ctl (Int × Int) (Int)) := fun  (n, m1) => bif (decide (0 < n)) then ((must (decide (n ≠ 0))).bind fun _ => some (.next ((m1.tmod n), n))) else (some (.brk m1))
def g97 (x : StandRatio) : Option StandRatio := (whileC g97_2 1000 ((max x.Top (wr (-x.Top))), x.Bottom)).bind fun m => (must (decide (m ≠ 0))).bind fun _ => (must (decide (m ≠ 0))).bind fun _ => some (StandRatio.mk (wr (x.Top.tdiv m)) (wr (x.Bottom.tdiv m)))
theorem k97 (x : StandRatio) (r : StandRatio) (h : g97 x = some r) : SCall Tryd.prog Gs 97 [.agg [.d (I x.Top), .d (I x.Bottom)]] [] 0 Fr.emp (.agg [.d (I r.Top), .d (I r.Bottom)]) [] 0 Fr.emp := by
 unfold g97 at h
 refine SCall.mkK Tryd.func97 c97 rfl rfl (by kernel_rfl) (fun Q_0 hR_0 hN_0 => ?_)
 refine AW.sa fokW [] ⟨[(1, .ptr 0 0), (2, .ptr 1 0)], [(1, .var 34 [.d (I 0), .d (I 0)]), (0, .var 34 [.d (I x.Top), .d (I x.Bottom)])], 2, Fr.emp, [], 0⟩ (by kernel_rfl) ?_
 refine AW.sa fokW [] ⟨[(1, .ptr 0 0), (2, .ptr 1 0), (3, .d (I (max x.Top (wr (-x.Top))))), (4, .d (I x.Bottom))], [(1, .var 34 [.d (I 0), .d (I 0)]), (0, .var 34 [.d (I x.Top), .d (I x.Bottom)])], 2, Fr.emp, [], 0⟩ (by kernel_rfl) ?_
 obtain ⟨m, hx_1, h⟩ := bsome h
 refine AW.jnSK (fun (m : Int) => ⟨[(1, .ptr 0 0), (2, .ptr 1 0), (4, .d (I m))], [(1, .var 34 [.d (I 0), .d (I 0)]), (0, .var 34 [.d (I x.Top), .d (I x.Bottom)])], 2, Fr.emp, [], 0⟩) (c := m) (fun K_1 hK_1 => ?_) ?_
 ·have h := hx_1
  refine AW.block ?_
  refine AW.whK (fun (⟨n, m1⟩ : Int × Int) => ⟨[(1, .ptr 0 0), (2, .ptr 1 0), (3, .d (I n)), (4, .d (I m1))], [(1, .var 34 [.d (I 0), .d (I 0)]), (0, .var 34 [.d (I x.Top), .d (I x.Bottom)])], 2, Fr.emp, [], 0⟩) g97_2 h (Can.kp (by kernel_rfl)) (fun s_2 c_2 h hb_2 K_2 hK_2 => ?_)
  obtain ⟨n, m1⟩ := s_2
  unfold g97_2 at h
  refine AW.seqK (fun K_3 hK_3 => ?_)
  refine AW.sa fokW [] ⟨[(1, .ptr 0 0), (2, .ptr 1 0), (3, .d (I n)), (4, .d (I m1)), (14, .d (.bool (decide (0 < n))))], [(1, .var 34 [.d (I 0), .d (I 0)]), (0, .var 34 [.d (I x.Top), .d (I x.Bottom)])], 2, Fr.emp, [], 0⟩ (by kernel_rfl) ?_
  refine AW.cond rfl (fun hb_4 => ?_) (fun hb_4 => ?_)
  ·have h := ifT hb_4 h
   refine AW.skip ?_
   refine hK_3 _ ?_
   refine AW.block ?_
   refine AW.rw ?_
   refine RW.au fokW 2 [] ⟨[(1, .ptr 0 0), (2, .ptr 1 0), (3, .d (I n)), (15, .d (I m1)), (16, .d (I n))], [(1, .var 34 [.d (I 0), .d (I 0)]), (0, .var 34 [.d (I x.Top), .d (I x.Bottom)])], 2, Fr.emp, [], 0⟩ (by kernel_rfl) ?_
   obtain ⟨_, hv_6, h⟩ := bsome h
   refine RW.one fokW (r_rem trivial rfl rfl (of_decide_eq_true (must_ok hv_6)) (r_end ?_))
   refine RW.au fokW 3 [] ⟨[(1, .ptr 0 0), (2, .ptr 1 0), (3, .d (I (m1.tmod n))), (4, .d (I n))], [(1, .var 34 [.d (I 0), .d (I 0)]), (0, .var 34 [.d (I x.Top), .d (I x.Bottom)])], 2, Fr.emp, [], 0⟩ (by kernel_rfl) ?_
   refine RW.nil ?_
   obtain rfl := Option.some.inj h
   exact hK_2 _ _ rfl (Can.kp (by kernel_rfl))
  ·have h := ifF hb_4 h
   refine AW.exit ?_
   obtain rfl := Option.some.inj h
   obtain rfl := hb_2 _ rfl
   exact hK_1 _ (Can.kp (by kernel_rfl))
 ·refine AW.sdrwK fokW (fun Q_7 hQ_7 => ?_)
  refine RunC.auX 3 ⟨[(1, .ptr 0 0), (2, .ptr 1 0), (4, .d (I m)), (20, .d (I x.Top)), (21, .d (I m))], [(1, .var 34 [.d (I 0), .d (I 0)]), (0, .var 34 [.d (I x.Top), .d (I x.Bottom)])], 2, Fr.emp, [], 0⟩ (by kernel_rfl) ?_
  obtain ⟨_, hv_8, h⟩ := bsome h
  refine r_quoW trivial rfl rfl (of_decide_eq_true (must_ok hv_8)) ?_
  refine RunC.auX 3 ⟨[(2, .ptr 1 0), (22, .d (I (wr (x.Top.tdiv m)))), (24, .d (I x.Bottom)), (25, .d (I m))], [(1, .var 34 [.d (I 0), .d (I 0)]), (0, .var 34 [.d (I x.Top), .d (I x.Bottom)])], 2, Fr.emp, [], 0⟩ (by kernel_rfl) ?_
  obtain ⟨_, hv_9, h⟩ := bsome h
  refine r_quoW trivial rfl rfl (of_decide_eq_true (must_ok hv_9)) ?_
  refine RunC.auX 2 ⟨[(2, .ptr 1 0)], [(1, .var 34 [.d (I (wr (x.Top.tdiv m))), .d (I (wr (x.Bottom.tdiv m)))]), (0, .var 34 [.d (I x.Top), .d (I x.Bottom)])], 2, Fr.emp, [], 0⟩ (by kernel_rfl) ?_
  refine RunC.fin ⟨[(2, .ptr 1 0)], [(1, .var 34 [.d (I (wr (x.Top.tdiv m))), .d (I (wr (x.Bottom.tdiv m)))])], 2, Fr.emp, [], 0⟩ (by kernel_rfl) (by kernel_rfl) ?_
  refine hQ_7 _ ?_
  obtain rfl := Option.some.inj h
  exact AW.ret (hR_0 _ (retX (.cons (.agg rfl rfl (Nat.le_of_ble_eq_true rfl)) .nil) (.refl _) rfl (by kernel_rfl) (by kernel_rfl)))
end Go.Proofs.Tz
