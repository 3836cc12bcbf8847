/- Told functions, and that the program does so, part 3. Conditions: none. -/
import Derived.Test.YtibenpfnlajakaaDoorTdb
set_option linter.unusedVariables false
set_option linter.unusedSimpArgs false
namespace Go.Proofs.Tz
open Go Go.Abs Go.Proofs
def g54 (l : (List Int)) (m : (List Int)) : Option Bool := bif (decide ((l.length : Int) ≠ (m.length : Int))) then (some (decide ((l.length : Int) < (m.length : Int)))) else ((g93 l m).bind fun r0_1 => some r0_1)
def g86_2 (set_ : Int) : Int → StandTrial → (List StandTrial) → Option (List StandTrial) := fun i p l => (g92 set_ i).bind fun r0 => bif (!r0) then ((appL 24 l [p]).bind fun l1 => some l1) else (some l)
def g86 (b : StandBook) (set_ : Int) : Option StandBook := (eachS (g86_2 set_) b.Trials 0 ([] : List StandTrial)).bind fun l => some (StandBook.mk b.Kind b.Front b.Back b.Radius b.Parts b.Along b.High b.Lean_ b.Limit l)
def g36_10 (b : StandBook) : Int → (List Int) → Option (List Int) := fun set_ best => (must (decide (0 ≤ (b.Trials.length : Int)))).bind fun _ => (g53 set_ (b.Trials.length : Int)).bind fun r0_1_1 => (g54 r0_1_1 best).bind fun r0_2 => (bif r0_2 then ((g86 b set_).bind fun r0_1_2 => (g62 r0_1_2).bind fun r0 => some (decide (0 < (r0.length : Int)))) else (some false)).bind fun v => bif v then (some r0_1_1) else (some best)
def g38_34 (b : StandBook) : (Bool × Int) → Option (Ctl (Bool × Int) (Bool)) := fun  (ok2, i) => (bif ok2 then (some (decide (i < (b.Parts.length : Int)))) else (some false)).bind fun v10 => bif v10 then ((ixL b.Parts i).bind fun p => (g87 p.Weight 1 99).bind fun r0_9 => (bif r0_9 then ((g43 p.Along (-60) 60).bind fun r0_10 => some r0_10) else (some false)).bind fun v11 => (bif v11 then ((g43 p.High 0 60).bind fun r0_11 => some r0_11) else (some false)).bind fun v12 => some (.next (v12, (wr (i + 1))))) else (some (.brk ok2))
def g38_53 (b : StandBook) : (Bool × Int) → Option (Ctl (Bool × Int) (Bool)) := fun  (ok5, i1) => (bif ok5 then (some (decide (i1 < (b.Trials.length : Int)))) else (some false)).bind fun v13 => bif v13 then ((ixL b.Trials i1).bind fun p1 => (g43 p1.Weight 1 b.Limit).bind fun r0_12 => bif r0_12 then ((g43 p1.Lean_ (wr (-b.Lean_)) b.Lean_).bind fun r0_13 => some (.next (r0_13, (wr (i1 + 1))))) else (some (.next (false, (wr (i1 + 1)))))) else (some (.brk ok5))
def g38 (b : StandBook) : Option Bool := (g18 b).bind fun A1 => (bif (decide (A1 = 0)) then ((g43 b.Kind 0 1).bind fun r0 => some r0) else (some false)).bind fun v => (bif v then ((g43 b.Front 1 60).bind fun r0_1 => some r0_1) else (some false)).bind fun v1 => (bif v1 then ((g43 b.Back 1 60).bind fun r0_2 => some r0_2) else (some false)).bind fun v2 => (bif v2 then ((g43 b.Radius 0 120).bind fun r0_3 => some r0_3) else (some false)).bind fun v3 => (bif v3 then ((g43 (b.Parts.length : Int) 1 4).bind fun r0_4 => some r0_4) else (some false)).bind fun v4 => (bif v4 then ((g43 b.Along (-60) 60).bind fun r0_5 => some r0_5) else (some false)).bind fun v5 => (bif v5 then ((g43 b.High 0 60).bind fun r0_6 => some r0_6) else (some false)).bind fun v6 => (bif v6 then ((g43 b.Lean_ 0 12).bind fun r0_7 => some r0_7) else (some false)).bind fun v7 => (bif v7 then ((g43 b.Limit 1 60).bind fun r0_8 => some r0_8) else (some false)).bind fun v8 => (bif v8 then (some (decide ((b.Trials.length : Int) ≤ 5))) else (some false)).bind fun v9 => ((whileC (g38_34 b) 1000 (v9, 0)).bind fun ok1 => some ok1).bind fun ok => ((whileC (g38_53 b) 1000 (ok, 0)).bind fun ok4 => some ok4).bind fun ok3 => some ok3
theorem k38 (b : StandBook) (r : Bool) (h : g38 b = some r) : SCall Tryd.prog Gs 38 [.agg (cv25 b)] [] 0 Fr.emp (.d (.bool r)) [] 0 Fr.emp := by
 unfold g38 at h
 refine SCall.mkK Tryd.func38 c38 rfl rfl (by kernel_rfl) (fun Q_0 hR_0 hN_0 => ?_)
 refine AW.sa fokW [] ⟨[(1, .ptr 0 0)], [(0, .var 25 (cv25 b))], 1, Fr.emp, [], 0⟩ (by kernel_rfl) ?_
 refine AW.srwK (fun Q_1 hQ_1 => ?_)
 refine RW.au fokW 1 [] ⟨[(1, .ptr 0 0), (7, .agg (cv25 b))], [(0, .var 25 (cv25 b))], 1, Fr.emp, [], 0⟩ (by kernel_rfl) ?_
 obtain ⟨A1, hx_2, h⟩ := bsome h
 refine RW.one fokW (r_call trivial rfl (k18 b _ hx_2) rfl rfl (r_end ?_))
 refine RW.au fokW 2 [] ⟨[(1, .ptr 0 0), (10, .d (.bool (decide (A1 = 0))))], [(0, .var 25 (cv25 b))], 1, Fr.emp, [], 0⟩ (by kernel_rfl) ?_
 obtain ⟨v, hx_3, h⟩ := bsome h
 refine RW.cut fokW 4 (⟨[(1, .ptr 0 0), (14, .d (.bool v))], [(0, .var 25 (cv25 b))], 1, Fr.emp, [], 0⟩) ?_ ?_
 ·refine r_split 10 rfl (fun hb_5 => ?_) (fun hb_5 => ?_)
  ·have h := ifT hb_5 hx_3
   refine RunC.auX 2 ⟨[(1, .ptr 0 0), (10, .d (.bool true)), (12, .d (I b.Kind))], [(0, .var 25 (cv25 b))], 1, Fr.emp, [], 0⟩ (by kernel_rfl) ?_
   obtain ⟨r0, hx_4, h⟩ := bsome h
   refine r_call rfl rfl (k43 b.Kind 0 1 _ hx_4) rfl rfl ?_
   refine RunC.auX 1 ⟨[(1, .ptr 0 0), (14, .d (.bool r0))], [(0, .var 25 (cv25 b))], 1, Fr.emp, [], 0⟩ (by kernel_rfl) ?_
   obtain rfl := Option.some.inj h
   refine RunC.finJ (Can.kp (by kernel_rfl))
  ·have h := ifF hb_5 hx_3
   refine RunC.auX 4 ⟨[(1, .ptr 0 0), (14, .d (.bool false))], [(0, .var 25 (cv25 b))], 1, Fr.emp, [], 0⟩ (by kernel_rfl) ?_
   obtain rfl := Option.some.inj h
   refine RunC.finJ (Can.kp (by kernel_rfl))
 ·refine RW.au fokW 1 [] ⟨[(1, .ptr 0 0), (15, .d (.bool v))], [(0, .var 25 (cv25 b))], 1, Fr.emp, [], 0⟩ (by kernel_rfl) ?_
  obtain ⟨v1, hx_6, h⟩ := bsome h
  refine RW.cut fokW 4 (⟨[(1, .ptr 0 0), (19, .d (.bool v1))], [(0, .var 25 (cv25 b))], 1, Fr.emp, [], 0⟩) ?_ ?_
  ·refine r_split 15 rfl (fun hb_8 => ?_) (fun hb_8 => ?_)
   ·have h := ifT hb_8 hx_6
    refine RunC.auX 2 ⟨[(1, .ptr 0 0), (15, .d (.bool true)), (17, .d (I b.Front))], [(0, .var 25 (cv25 b))], 1, Fr.emp, [], 0⟩ (by kernel_rfl) ?_
    obtain ⟨r0_1, hx_7, h⟩ := bsome h
    refine r_call rfl rfl (k43 b.Front 1 60 _ hx_7) rfl rfl ?_
    refine RunC.auX 1 ⟨[(1, .ptr 0 0), (19, .d (.bool r0_1))], [(0, .var 25 (cv25 b))], 1, Fr.emp, [], 0⟩ (by kernel_rfl) ?_
    obtain rfl := Option.some.inj h
    refine RunC.finJ (Can.kp (by kernel_rfl))
   ·have h := ifF hb_8 hx_6
    refine RunC.auX 4 ⟨[(1, .ptr 0 0), (19, .d (.bool false))], [(0, .var 25 (cv25 b))], 1, Fr.emp, [], 0⟩ (by kernel_rfl) ?_
    obtain rfl := Option.some.inj h
    refine RunC.finJ (Can.kp (by kernel_rfl))
  ·refine RW.au fokW 1 [] ⟨[(1, .ptr 0 0), (20, .d (.bool v1))], [(0, .var 25 (cv25 b))], 1, Fr.emp, [], 0⟩ (by kernel_rfl) ?_
   obtain ⟨v2, hx_9, h⟩ := bsome h
   refine RW.cut fokW 4 (⟨[(1, .ptr 0 0), (24, .d (.bool v2))], [(0, .var 25 (cv25 b))], 1, Fr.emp, [], 0⟩) ?_ ?_
   ·refine r_split 20 rfl (fun hb_11 => ?_) (fun hb_11 => ?_)
    ·have h := ifT hb_11 hx_9
     refine RunC.auX 2 ⟨[(1, .ptr 0 0), (20, .d (.bool true)), (22, .d (I b.Back))], [(0, .var 25 (cv25 b))], 1, Fr.emp, [], 0⟩ (by kernel_rfl) ?_
     obtain ⟨r0_2, hx_10, h⟩ := bsome h
     refine r_call rfl rfl (k43 b.Back 1 60 _ hx_10) rfl rfl ?_
     refine RunC.auX 1 ⟨[(1, .ptr 0 0), (24, .d (.bool r0_2))], [(0, .var 25 (cv25 b))], 1, Fr.emp, [], 0⟩ (by kernel_rfl) ?_
     obtain rfl := Option.some.inj h
     refine RunC.finJ (Can.kp (by kernel_rfl))
    ·have h := ifF hb_11 hx_9
     refine RunC.auX 4 ⟨[(1, .ptr 0 0), (24, .d (.bool false))], [(0, .var 25 (cv25 b))], 1, Fr.emp, [], 0⟩ (by kernel_rfl) ?_
     obtain rfl := Option.some.inj h
     refine RunC.finJ (Can.kp (by kernel_rfl))
   ·refine RW.au fokW 1 [] ⟨[(1, .ptr 0 0), (25, .d (.bool v2))], [(0, .var 25 (cv25 b))], 1, Fr.emp, [], 0⟩ (by kernel_rfl) ?_
    obtain ⟨v3, hx_12, h⟩ := bsome h
    refine RW.cut fokW 4 (⟨[(1, .ptr 0 0), (29, .d (.bool v3))], [(0, .var 25 (cv25 b))], 1, Fr.emp, [], 0⟩) ?_ ?_
    ·refine r_split 25 rfl (fun hb_14 => ?_) (fun hb_14 => ?_)
     ·have h := ifT hb_14 hx_12
      refine RunC.auX 2 ⟨[(1, .ptr 0 0), (25, .d (.bool true)), (27, .d (I b.Radius))], [(0, .var 25 (cv25 b))], 1, Fr.emp, [], 0⟩ (by kernel_rfl) ?_
      obtain ⟨r0_3, hx_13, h⟩ := bsome h
      refine r_call rfl rfl (k43 b.Radius 0 120 _ hx_13) rfl rfl ?_
      refine RunC.auX 1 ⟨[(1, .ptr 0 0), (29, .d (.bool r0_3))], [(0, .var 25 (cv25 b))], 1, Fr.emp, [], 0⟩ (by kernel_rfl) ?_
      obtain rfl := Option.some.inj h
      refine RunC.finJ (Can.kp (by kernel_rfl))
     ·have h := ifF hb_14 hx_12
      refine RunC.auX 4 ⟨[(1, .ptr 0 0), (29, .d (.bool false))], [(0, .var 25 (cv25 b))], 1, Fr.emp, [], 0⟩ (by kernel_rfl) ?_
      obtain rfl := Option.some.inj h
      refine RunC.finJ (Can.kp (by kernel_rfl))
    ·refine RW.au fokW 1 [] ⟨[(1, .ptr 0 0), (30, .d (.bool v3))], [(0, .var 25 (cv25 b))], 1, Fr.emp, [], 0⟩ (by kernel_rfl) ?_
     obtain ⟨v4, hx_15, h⟩ := bsome h
     refine RW.cut fokW 5 (⟨[(1, .ptr 0 0), (35, .d (.bool v4))], [(0, .var 25 (cv25 b))], 1, Fr.emp, [], 0⟩) ?_ ?_
     ·refine r_split 30 rfl (fun hb_17 => ?_) (fun hb_17 => ?_)
      ·have h := ifT hb_17 hx_15
       refine RunC.auX 2 ⟨[(1, .ptr 0 0), (30, .d (.bool true)), (32, .d (.sl 4 (List.map e70 b.Parts)))], [(0, .var 25 (cv25 b))], 1, Fr.emp, [], 0⟩ (by kernel_rfl) ?_
       refine r_lenX rfl rfl lenm ?_
       obtain ⟨r0_4, hx_16, h⟩ := bsome h
       refine r_call rfl rfl (k43 (b.Parts.length : Int) 1 4 _ hx_16) rfl rfl ?_
       refine RunC.auX 1 ⟨[(1, .ptr 0 0), (35, .d (.bool r0_4))], [(0, .var 25 (cv25 b))], 1, Fr.emp, [], 0⟩ (by kernel_rfl) ?_
       obtain rfl := Option.some.inj h
       refine RunC.finJ (Can.kp (by kernel_rfl))
      ·have h := ifF hb_17 hx_15
       refine RunC.auX 5 ⟨[(1, .ptr 0 0), (35, .d (.bool false))], [(0, .var 25 (cv25 b))], 1, Fr.emp, [], 0⟩ (by kernel_rfl) ?_
       obtain rfl := Option.some.inj h
       refine RunC.finJ (Can.kp (by kernel_rfl))
     ·refine RW.au fokW 1 [] ⟨[(1, .ptr 0 0), (36, .d (.bool v4))], [(0, .var 25 (cv25 b))], 1, Fr.emp, [], 0⟩ (by kernel_rfl) ?_
      obtain ⟨v5, hx_18, h⟩ := bsome h
      refine RW.cut fokW 4 (⟨[(1, .ptr 0 0), (40, .d (.bool v5))], [(0, .var 25 (cv25 b))], 1, Fr.emp, [], 0⟩) ?_ ?_
      ·refine r_split 36 rfl (fun hb_20 => ?_) (fun hb_20 => ?_)
       ·have h := ifT hb_20 hx_18
        refine RunC.auX 2 ⟨[(1, .ptr 0 0), (36, .d (.bool true)), (38, .d (I b.Along))], [(0, .var 25 (cv25 b))], 1, Fr.emp, [], 0⟩ (by kernel_rfl) ?_
        obtain ⟨r0_5, hx_19, h⟩ := bsome h
        refine r_call rfl rfl (k43 b.Along (-60) 60 _ hx_19) rfl rfl ?_
        refine RunC.auX 1 ⟨[(1, .ptr 0 0), (40, .d (.bool r0_5))], [(0, .var 25 (cv25 b))], 1, Fr.emp, [], 0⟩ (by kernel_rfl) ?_
        obtain rfl := Option.some.inj h
        refine RunC.finJ (Can.kp (by kernel_rfl))
       ·have h := ifF hb_20 hx_18
        refine RunC.auX 4 ⟨[(1, .ptr 0 0), (40, .d (.bool false))], [(0, .var 25 (cv25 b))], 1, Fr.emp, [], 0⟩ (by kernel_rfl) ?_
        obtain rfl := Option.some.inj h
        refine RunC.finJ (Can.kp (by kernel_rfl))
      ·refine RW.au fokW 1 [] ⟨[(1, .ptr 0 0), (41, .d (.bool v5))], [(0, .var 25 (cv25 b))], 1, Fr.emp, [], 0⟩ (by kernel_rfl) ?_
       obtain ⟨v6, hx_21, h⟩ := bsome h
       refine RW.cut fokW 4 (⟨[(1, .ptr 0 0), (45, .d (.bool v6))], [(0, .var 25 (cv25 b))], 1, Fr.emp, [], 0⟩) ?_ ?_
       ·refine r_split 41 rfl (fun hb_23 => ?_) (fun hb_23 => ?_)
        ·have h := ifT hb_23 hx_21
         refine RunC.auX 2 ⟨[(1, .ptr 0 0), (41, .d (.bool true)), (43, .d (I b.High))], [(0, .var 25 (cv25 b))], 1, Fr.emp, [], 0⟩ (by kernel_rfl) ?_
         obtain ⟨r0_6, hx_22, h⟩ := bsome h
         refine r_call rfl rfl (k43 b.High 0 60 _ hx_22) rfl rfl ?_
         refine RunC.auX 1 ⟨[(1, .ptr 0 0), (45, .d (.bool r0_6))], [(0, .var 25 (cv25 b))], 1, Fr.emp, [], 0⟩ (by kernel_rfl) ?_
         obtain rfl := Option.some.inj h
         refine RunC.finJ (Can.kp (by kernel_rfl))
        ·have h := ifF hb_23 hx_21
         refine RunC.auX 4 ⟨[(1, .ptr 0 0), (45, .d (.bool false))], [(0, .var 25 (cv25 b))], 1, Fr.emp, [], 0⟩ (by kernel_rfl) ?_
         obtain rfl := Option.some.inj h
         refine RunC.finJ (Can.kp (by kernel_rfl))
       ·refine RW.au fokW 1 [] ⟨[(1, .ptr 0 0), (46, .d (.bool v6))], [(0, .var 25 (cv25 b))], 1, Fr.emp, [], 0⟩ (by kernel_rfl) ?_
        obtain ⟨v7, hx_24, h⟩ := bsome h
        refine RW.cut fokW 4 (⟨[(1, .ptr 0 0), (50, .d (.bool v7))], [(0, .var 25 (cv25 b))], 1, Fr.emp, [], 0⟩) ?_ ?_
        ·refine r_split 46 rfl (fun hb_26 => ?_) (fun hb_26 => ?_)
         ·have h := ifT hb_26 hx_24
          refine RunC.auX 2 ⟨[(1, .ptr 0 0), (46, .d (.bool true)), (48, .d (I b.Lean_))], [(0, .var 25 (cv25 b))], 1, Fr.emp, [], 0⟩ (by kernel_rfl) ?_
          obtain ⟨r0_7, hx_25, h⟩ := bsome h
          refine r_call rfl rfl (k43 b.Lean_ 0 12 _ hx_25) rfl rfl ?_
          refine RunC.auX 1 ⟨[(1, .ptr 0 0), (50, .d (.bool r0_7))], [(0, .var 25 (cv25 b))], 1, Fr.emp, [], 0⟩ (by kernel_rfl) ?_
          obtain rfl := Option.some.inj h
          refine RunC.finJ (Can.kp (by kernel_rfl))
         ·have h := ifF hb_26 hx_24
          refine RunC.auX 4 ⟨[(1, .ptr 0 0), (50, .d (.bool false))], [(0, .var 25 (cv25 b))], 1, Fr.emp, [], 0⟩ (by kernel_rfl) ?_
          obtain rfl := Option.some.inj h
          refine RunC.finJ (Can.kp (by kernel_rfl))
        ·refine RW.au fokW 1 [] ⟨[(1, .ptr 0 0), (51, .d (.bool v7))], [(0, .var 25 (cv25 b))], 1, Fr.emp, [], 0⟩ (by kernel_rfl) ?_
         obtain ⟨v8, hx_27, h⟩ := bsome h
         refine RW.cut fokW 4 (⟨[(1, .ptr 0 0), (55, .d (.bool v8))], [(0, .var 25 (cv25 b))], 1, Fr.emp, [], 0⟩) ?_ ?_
         ·refine r_split 51 rfl (fun hb_29 => ?_) (fun hb_29 => ?_)
          ·have h := ifT hb_29 hx_27
           refine RunC.auX 2 ⟨[(1, .ptr 0 0), (51, .d (.bool true)), (53, .d (I b.Limit))], [(0, .var 25 (cv25 b))], 1, Fr.emp, [], 0⟩ (by kernel_rfl) ?_
           obtain ⟨r0_8, hx_28, h⟩ := bsome h
           refine r_call rfl rfl (k43 b.Limit 1 60 _ hx_28) rfl rfl ?_
           refine RunC.auX 1 ⟨[(1, .ptr 0 0), (55, .d (.bool r0_8))], [(0, .var 25 (cv25 b))], 1, Fr.emp, [], 0⟩ (by kernel_rfl) ?_
           obtain rfl := Option.some.inj h
           refine RunC.finJ (Can.kp (by kernel_rfl))
          ·have h := ifF hb_29 hx_27
           refine RunC.auX 4 ⟨[(1, .ptr 0 0), (55, .d (.bool false))], [(0, .var 25 (cv25 b))], 1, Fr.emp, [], 0⟩ (by kernel_rfl) ?_
           obtain rfl := Option.some.inj h
           refine RunC.finJ (Can.kp (by kernel_rfl))
         ·refine RW.au fokW 1 [] ⟨[(1, .ptr 0 0), (56, .d (.bool v8))], [(0, .var 25 (cv25 b))], 1, Fr.emp, [], 0⟩ (by kernel_rfl) ?_
          obtain ⟨v9, hx_30, h⟩ := bsome h
          refine RW.cut fokW 5 (⟨[(1, .ptr 0 0), (61, .d (.bool v9))], [(0, .var 25 (cv25 b))], 1, Fr.emp, [], 0⟩) ?_ ?_
          ·refine r_split 56 rfl (fun hb_31 => ?_) (fun hb_31 => ?_)
           ·have h := ifT hb_31 hx_30
            refine RunC.auX 2 ⟨[(1, .ptr 0 0), (56, .d (.bool true)), (58, .d (.sl 3 (List.map e65 b.Trials)))], [(0, .var 25 (cv25 b))], 1, Fr.emp, [], 0⟩ (by kernel_rfl) ?_
            refine r_lenX rfl rfl lenm ?_
            refine RunC.auX 2 ⟨[(1, .ptr 0 0), (61, .d (.bool (decide ((b.Trials.length : Int) ≤ 5))))], [(0, .var 25 (cv25 b))], 1, Fr.emp, [], 0⟩ (by kernel_rfl) ?_
            obtain rfl := Option.some.inj h
            refine RunC.finJ (Can.kp (by kernel_rfl))
           ·have h := ifF hb_31 hx_30
            refine RunC.auX 5 ⟨[(1, .ptr 0 0), (61, .d (.bool false))], [(0, .var 25 (cv25 b))], 1, Fr.emp, [], 0⟩ (by kernel_rfl) ?_
            obtain rfl := Option.some.inj h
            refine RunC.finJ (Can.kp (by kernel_rfl))
          ·refine RW.au fokW 1 [] ⟨[(1, .ptr 0 0), (3, .d (.bool v9))], [(0, .var 25 (cv25 b))], 1, Fr.emp, [], 0⟩ (by kernel_rfl) ?_
           refine RW.nil ?_
           refine hQ_1 _ ?_
           obtain ⟨ok, hx_32, h⟩ := bsome h
           refine AW.jnSK (fun (ok : Bool) => ⟨[(1, .ptr 0 0), (3, .d (.bool ok))], [(0, .var 25 (cv25 b))], 1, Fr.emp, [], 0⟩) (c := ok) (fun K_32 hK_32 => ?_) ?_
           ·have h := hx_32
            refine AW.sa fokW [] ⟨[(1, .ptr 0 0), (3, .d (.bool v9)), (4, .d (I 0))], [(0, .var 25 (cv25 b))], 1, Fr.emp, [], 0⟩ (by kernel_rfl) ?_
            obtain ⟨ok1, hx_33, h⟩ := bsome h
            refine AW.jqSK (fun (ok1 : Bool) => ⟨[(1, .ptr 0 0), (3, .d (.bool ok1))], [(0, .var 25 (cv25 b))], 1, Fr.emp, [], 0⟩) (c := ok1) (fun K_33 hK_33 => ?_) ?_
            ·have h := hx_33
             refine AW.block ?_
             refine AW.whK (fun (⟨ok2, i⟩ : Bool × Int) => ⟨[(1, .ptr 0 0), (3, .d (.bool ok2)), (4, .d (I i))], [(0, .var 25 (cv25 b))], 1, Fr.emp, [], 0⟩) (g38_34 b) h (Can.kp (by kernel_rfl)) (fun s_34 c_34 h hb_34 K_34 hK_34 => ?_)
             obtain ⟨ok2, i⟩ := s_34
             unfold g38_34 at h
             refine AW.seqK (fun K_35 hK_35 => ?_)
             refine AW.srwK (fun Q_36 hQ_36 => ?_)
             refine RW.au fokW 2 [] ⟨[(1, .ptr 0 0), (3, .d (.bool ok2)), (4, .d (I i)), (63, .d (.bool ok2))], [(0, .var 25 (cv25 b))], 1, Fr.emp, [], 0⟩ (by kernel_rfl) ?_
             obtain ⟨v10, hx_37, h⟩ := bsome h
             refine RW.cut fokW 6 (⟨[(1, .ptr 0 0), (3, .d (.bool ok2)), (4, .d (I i)), (69, .d (.bool v10))], [(0, .var 25 (cv25 b))], 1, Fr.emp, [], 0⟩) ?_ ?_
             ·refine r_split 63 rfl (fun hb_38 => ?_) (fun hb_38 => ?_)
              ·have h := ifT hb_38 hx_37
               refine RunC.auX 3 ⟨[(1, .ptr 0 0), (3, .d (.bool ok2)), (4, .d (I i)), (63, .d (.bool true)), (64, .d (I i)), (65, .ptr 0 4), (66, .d (.sl 4 (List.map e70 b.Parts)))], [(0, .var 25 (cv25 b))], 1, Fr.emp, [], 0⟩ (by kernel_rfl) ?_
               refine r_lenX rfl rfl lenm ?_
               refine RunC.auX 2 ⟨[(1, .ptr 0 0), (3, .d (.bool ok2)), (4, .d (I i)), (64, .d (I i)), (65, .ptr 0 4), (66, .d (.sl 4 (List.map e70 b.Parts))), (67, .d (I (b.Parts.length : Int))), (68, .d (.bool (decide (i < (b.Parts.length : Int))))), (69, .d (.bool (decide (i < (b.Parts.length : Int)))))], [(0, .var 25 (cv25 b))], 1, Fr.emp, [], 0⟩ (by kernel_rfl) ?_
               obtain rfl := Option.some.inj h
               refine RunC.finJ (Can.kp (by kernel_rfl))
              ·have h := ifF hb_38 hx_37
               refine RunC.auX 6 ⟨[(1, .ptr 0 0), (3, .d (.bool ok2)), (4, .d (I i)), (64, .undef), (65, .undef), (66, .undef), (67, .undef), (68, .undef), (69, .d (.bool false))], [(0, .var 25 (cv25 b))], 1, Fr.emp, [], 0⟩ (by kernel_rfl) ?_
               obtain rfl := Option.some.inj h
               refine RunC.finJ (Can.kp (by kernel_rfl))
             ·refine RW.nil ?_
              refine hQ_36 _ ?_
              refine AW.cond rfl (fun hb_39 => ?_) (fun hb_39 => ?_)
              ·have h := ifT hb_39 h
               refine AW.skip ?_
               refine hK_35 _ ?_
               refine AW.seqK (fun K_40 hK_40 => ?_)
               refine AW.block ?_
               refine AW.srwK (fun Q_41 hQ_41 => ?_)
               refine RW.au fokW 3 [] ⟨[(1, .ptr 0 0), (4, .d (I i)), (73, .d (.sl 4 (List.map e70 b.Parts))), (74, .d (I i))], [(0, .var 25 (cv25 b))], 1, Fr.emp, [], 0⟩ (by kernel_rfl) ?_
               obtain ⟨p, hv_42, h⟩ := bsome h
               refine RW.one fokW (r_iaD trivial rfl rfl (ixL_ok hv_42).1 (row := e70 p) (mapget (ixL_ok hv_42).2) (r_end ?_))
               refine RW.au fokW 3 [] ⟨[(1, .ptr 0 0), (4, .d (I i)), (5, .ptr 1 0)], [(1, .var 70 (cv70 p)), (0, .var 25 (cv25 b))], 2, Fr.emp, [], 0⟩ (by kernel_rfl) ?_
               refine RW.nil ?_
               refine hQ_41 _ ?_
               refine AW.rw ?_
               refine RW.au fokW 2 [] ⟨[(1, .ptr 0 0), (4, .d (I i)), (5, .ptr 1 0), (78, .agg [.d (I p.Weight.Low), .d (I p.Weight.High)])], [(1, .var 70 (cv70 p)), (0, .var 25 (cv25 b))], 2, Fr.emp, [], 0⟩ (by kernel_rfl) ?_
               obtain ⟨r0_9, hx_44, h⟩ := bsome h
               refine RW.one fokW (r_call trivial rfl (k87 p.Weight 1 99 _ hx_44) rfl rfl (r_end ?_))
               refine RW.au fokW 1 [] ⟨[(1, .ptr 0 0), (4, .d (I i)), (5, .ptr 1 0), (80, .d (.bool r0_9))], [(1, .var 70 (cv70 p)), (0, .var 25 (cv25 b))], 2, Fr.emp, [], 0⟩ (by kernel_rfl) ?_
               obtain ⟨v11, hx_45, h⟩ := bsome h
               refine RW.cut fokW 4 (⟨[(1, .ptr 0 0), (4, .d (I i)), (5, .ptr 1 0), (84, .d (.bool v11))], [(1, .var 70 (cv70 p)), (0, .var 25 (cv25 b))], 2, Fr.emp, [], 0⟩) ?_ ?_
               ·refine r_split 80 rfl (fun hb_47 => ?_) (fun hb_47 => ?_)
                ·have h := ifT hb_47 hx_45
                 refine RunC.auX 2 ⟨[(1, .ptr 0 0), (4, .d (I i)), (5, .ptr 1 0), (80, .d (.bool true)), (81, .ptr 1 2), (82, .d (I p.Along))], [(1, .var 70 (cv70 p)), (0, .var 25 (cv25 b))], 2, Fr.emp, [], 0⟩ (by kernel_rfl) ?_
                 obtain ⟨r0_10, hx_46, h⟩ := bsome h
                 refine r_call rfl rfl (k43 p.Along (-60) 60 _ hx_46) rfl rfl ?_
                 refine RunC.auX 1 ⟨[(1, .ptr 0 0), (4, .d (I i)), (5, .ptr 1 0), (81, .ptr 1 2), (82, .d (I p.Along)), (83, .d (.bool r0_10)), (84, .d (.bool r0_10))], [(1, .var 70 (cv70 p)), (0, .var 25 (cv25 b))], 2, Fr.emp, [], 0⟩ (by kernel_rfl) ?_
                 obtain rfl := Option.some.inj h
                 refine RunC.finJ (Can.kp (by kernel_rfl))
                ·have h := ifF hb_47 hx_45
                 refine RunC.auX 4 ⟨[(1, .ptr 0 0), (4, .d (I i)), (5, .ptr 1 0), (81, .undef), (82, .undef), (83, .undef), (84, .d (.bool false))], [(1, .var 70 (cv70 p)), (0, .var 25 (cv25 b))], 2, Fr.emp, [], 0⟩ (by kernel_rfl) ?_
                 obtain rfl := Option.some.inj h
                 refine RunC.finJ (Can.kp (by kernel_rfl))
               ·refine RW.au fokW 1 [] ⟨[(1, .ptr 0 0), (4, .d (I i)), (5, .ptr 1 0), (85, .d (.bool v11))], [(1, .var 70 (cv70 p)), (0, .var 25 (cv25 b))], 2, Fr.emp, [], 0⟩ (by kernel_rfl) ?_
                obtain ⟨v12, hx_48, h⟩ := bsome h
                refine RW.cut fokW 4 (⟨[(1, .ptr 0 0), (4, .d (I i)), (89, .d (.bool v12))], [(0, .var 25 (cv25 b))], 1, Fr.emp, [], 0⟩) ?_ ?_
                ·refine r_split 85 rfl (fun hb_50 => ?_) (fun hb_50 => ?_)
                 ·have h := ifT hb_50 hx_48
                  refine RunC.auX 2 ⟨[(1, .ptr 0 0), (4, .d (I i)), (85, .d (.bool true)), (86, .ptr 1 3), (87, .d (I p.High))], [(1, .var 70 (cv70 p)), (0, .var 25 (cv25 b))], 2, Fr.emp, [], 0⟩ (by kernel_rfl) ?_
                  obtain ⟨r0_11, hx_49, h⟩ := bsome h
                  refine r_call rfl rfl (k43 p.High 0 60 _ hx_49) rfl rfl ?_
                  refine RunC.auX 1 ⟨[(1, .ptr 0 0), (4, .d (I i)), (86, .ptr 1 3), (87, .d (I p.High)), (88, .d (.bool r0_11)), (89, .d (.bool r0_11))], [(1, .var 70 (cv70 p)), (0, .var 25 (cv25 b))], 2, Fr.emp, [], 0⟩ (by kernel_rfl) ?_
                  obtain rfl := Option.some.inj h
                  refine RunC.finJ (Can.kp (by kernel_rfl))
                 ·have h := ifF hb_50 hx_48
                  refine RunC.auX 4 ⟨[(1, .ptr 0 0), (4, .d (I i)), (86, .undef), (87, .undef), (88, .undef), (89, .d (.bool false))], [(1, .var 70 (cv70 p)), (0, .var 25 (cv25 b))], 2, Fr.emp, [], 0⟩ (by kernel_rfl) ?_
                  obtain rfl := Option.some.inj h
                  refine RunC.finJ (Can.kp (by kernel_rfl))
                ·refine RW.au fokW 1 [] ⟨[(1, .ptr 0 0), (3, .d (.bool v12)), (4, .d (I i))], [(0, .var 25 (cv25 b))], 1, Fr.emp, [], 0⟩ (by kernel_rfl) ?_
                 refine RW.nil ?_
                 refine hK_40 _ ?_
                 refine AW.ra fokW [] ⟨[(1, .ptr 0 0), (3, .d (.bool v12)), (4, .d (I (wr (i + 1))))], [(0, .var 25 (cv25 b))], 1, Fr.emp, [], 0⟩ (by kernel_rfl) ?_
                 obtain rfl := Option.some.inj h
                 exact hK_34 _ _ rfl (Can.kp (by kernel_rfl))
              ·have h := ifF hb_39 h
               refine AW.exit ?_
               obtain rfl := Option.some.inj h
               obtain rfl := hb_34 _ rfl
               exact hK_33 _ (Can.kp (by kernel_rfl))
            ·obtain rfl := Option.some.inj h
             exact hK_32 _ (Can.kp (by kernel_rfl))
           ·obtain ⟨ok3, hx_51, h⟩ := bsome h
            refine AW.jnSK (fun (ok3 : Bool) => ⟨[(3, .d (.bool ok3))], [], 0, Fr.emp, [], 0⟩) (c := ok3) (fun K_51 hK_51 => ?_) ?_
            ·have h := hx_51
             refine AW.sa fokW [] ⟨[(1, .ptr 0 0), (3, .d (.bool ok)), (6, .d (I 0))], [(0, .var 25 (cv25 b))], 1, Fr.emp, [], 0⟩ (by kernel_rfl) ?_
             obtain ⟨ok4, hx_52, h⟩ := bsome h
             refine AW.jqSK (fun (ok4 : Bool) => ⟨[(3, .d (.bool ok4))], [], 0, Fr.emp, [], 0⟩) (c := ok4) (fun K_52 hK_52 => ?_) ?_
             ·have h := hx_52
              refine AW.block ?_
              refine AW.whK (fun (⟨ok5, i1⟩ : Bool × Int) => ⟨[(1, .ptr 0 0), (3, .d (.bool ok5)), (6, .d (I i1))], [(0, .var 25 (cv25 b))], 1, Fr.emp, [], 0⟩) (g38_53 b) h (Can.kp (by kernel_rfl)) (fun s_53 c_53 h hb_53 K_53 hK_53 => ?_)
              obtain ⟨ok5, i1⟩ := s_53
              unfold g38_53 at h
              refine AW.seqK (fun K_54 hK_54 => ?_)
              refine AW.srwK (fun Q_55 hQ_55 => ?_)
              refine RW.au fokW 2 [] ⟨[(1, .ptr 0 0), (3, .d (.bool ok5)), (6, .d (I i1)), (91, .d (.bool ok5))], [(0, .var 25 (cv25 b))], 1, Fr.emp, [], 0⟩ (by kernel_rfl) ?_
              obtain ⟨v13, hx_56, h⟩ := bsome h
              refine RW.cut fokW 6 (⟨[(1, .ptr 0 0), (3, .d (.bool ok5)), (6, .d (I i1)), (97, .d (.bool v13))], [(0, .var 25 (cv25 b))], 1, Fr.emp, [], 0⟩) ?_ ?_
              ·refine r_split 91 rfl (fun hb_57 => ?_) (fun hb_57 => ?_)
               ·have h := ifT hb_57 hx_56
                refine RunC.auX 3 ⟨[(1, .ptr 0 0), (3, .d (.bool ok5)), (6, .d (I i1)), (91, .d (.bool true)), (92, .d (I i1)), (93, .ptr 0 9), (94, .d (.sl 3 (List.map e65 b.Trials)))], [(0, .var 25 (cv25 b))], 1, Fr.emp, [], 0⟩ (by kernel_rfl) ?_
                refine r_lenX rfl rfl lenm ?_
                refine RunC.auX 2 ⟨[(1, .ptr 0 0), (3, .d (.bool ok5)), (6, .d (I i1)), (92, .d (I i1)), (93, .ptr 0 9), (94, .d (.sl 3 (List.map e65 b.Trials))), (95, .d (I (b.Trials.length : Int))), (96, .d (.bool (decide (i1 < (b.Trials.length : Int))))), (97, .d (.bool (decide (i1 < (b.Trials.length : Int)))))], [(0, .var 25 (cv25 b))], 1, Fr.emp, [], 0⟩ (by kernel_rfl) ?_
                obtain rfl := Option.some.inj h
                refine RunC.finJ (Can.kp (by kernel_rfl))
               ·have h := ifF hb_57 hx_56
                refine RunC.auX 6 ⟨[(1, .ptr 0 0), (3, .d (.bool ok5)), (6, .d (I i1)), (92, .undef), (93, .undef), (94, .undef), (95, .undef), (96, .undef), (97, .d (.bool false))], [(0, .var 25 (cv25 b))], 1, Fr.emp, [], 0⟩ (by kernel_rfl) ?_
                obtain rfl := Option.some.inj h
                refine RunC.finJ (Can.kp (by kernel_rfl))
              ·refine RW.nil ?_
               refine hQ_55 _ ?_
               refine AW.cond rfl (fun hb_58 => ?_) (fun hb_58 => ?_)
               ·have h := ifT hb_58 h
                refine AW.skip ?_
                refine hK_54 _ ?_
                refine AW.seqK (fun K_59 hK_59 => ?_)
                refine AW.block ?_
                refine AW.drw fokW ?_
                refine RunC.auX 3 ⟨[(1, .ptr 0 0), (6, .d (I i1)), (101, .d (.sl 3 (List.map e65 b.Trials))), (102, .d (I i1))], [(0, .var 25 (cv25 b))], 1, Fr.emp, [], 0⟩ (by kernel_rfl) ?_
                obtain ⟨p1, hv_61, h⟩ := bsome h
                refine r_iaD trivial rfl rfl (ixL_ok hv_61).1 (row := e65 p1) (mapget (ixL_ok hv_61).2) ?_
                refine RunC.auX 4 ⟨[(1, .ptr 0 0), (6, .d (I i1)), (105, .d (I p1.Weight)), (107, .d (I b.Limit))], [(0, .var 25 (cv25 b))], 1, Fr.emp, [], 0⟩ (by kernel_rfl) ?_
                obtain ⟨r0_12, hx_62, h⟩ := bsome h
                refine r_call trivial rfl (k43 p1.Weight 1 b.Limit _ hx_62) rfl rfl ?_
                refine RunC.auX 1 ⟨[(1, .ptr 0 0), (6, .d (I i1)), (109, .d (.bool r0_12))], [(0, .var 25 (cv25 b))], 1, Fr.emp, [], 0⟩ (by kernel_rfl) ?_
                refine r_split 109 rfl (fun hb_63 => ?_) (fun hb_63 => ?_)
                ·have h := ifT hb_63 h
                 refine RunC.auX 3 ⟨[(1, .ptr 0 0), (6, .d (I i1)), (109, .d (.bool true)), (110, .ptr 0 9), (111, .d (.sl 3 (List.map e65 b.Trials))), (112, .d (I i1))], [(0, .var 25 (cv25 b))], 1, Fr.emp, [], 0⟩ (by kernel_rfl) ?_
                 refine r_iaD rfl rfl rfl (ixL_ok hv_61).1 (row := e65 p1) (mapget (ixL_ok hv_61).2) ?_
                 refine RunC.auX 7 ⟨[(1, .ptr 0 0), (6, .d (I i1)), (109, .d (.bool true)), (110, .ptr 0 9), (111, .d (.sl 3 (List.map e65 b.Trials))), (112, .d (I i1)), (113, .fp (e65 p1) 0), (114, .fp (e65 p1) 1), (115, .d (I p1.Lean_)), (116, .ptr 0 7), (117, .d (I b.Lean_)), (118, .d (I (wr (-b.Lean_)))), (119, .ptr 0 7), (120, .d (I b.Lean_))], [(0, .var 25 (cv25 b))], 1, Fr.emp, [], 0⟩ (by kernel_rfl) ?_
                 obtain ⟨r0_13, hx_64, h⟩ := bsome h
                 refine r_call rfl rfl (k43 p1.Lean_ (wr (-b.Lean_)) b.Lean_ _ hx_64) rfl rfl ?_
                 refine RunC.auX 2 ⟨[(1, .ptr 0 0), (3, .d (.bool r0_13)), (6, .d (I i1)), (110, .ptr 0 9), (111, .d (.sl 3 (List.map e65 b.Trials))), (112, .d (I i1)), (113, .fp (e65 p1) 0), (114, .fp (e65 p1) 1), (115, .d (I p1.Lean_)), (116, .ptr 0 7), (117, .d (I b.Lean_)), (118, .d (I (wr (-b.Lean_)))), (119, .ptr 0 7), (120, .d (I b.Lean_)), (121, .d (.bool r0_13))], [(0, .var 25 (cv25 b))], 1, Fr.emp, [], 0⟩ (by kernel_rfl) ?_
                 refine RunC.fin ⟨[(1, .ptr 0 0), (3, .d (.bool r0_13)), (6, .d (I i1)), (110, .ptr 0 9), (111, .d (.sl 3 (List.map e65 b.Trials))), (112, .d (I i1)), (113, .fp (e65 p1) 0), (114, .fp (e65 p1) 1), (115, .d (I p1.Lean_)), (116, .ptr 0 7), (117, .d (I b.Lean_)), (118, .d (I (wr (-b.Lean_)))), (119, .ptr 0 7), (120, .d (I b.Lean_)), (121, .d (.bool r0_13))], [(0, .var 25 (cv25 b))], 1, Fr.emp, [], 0⟩ (by kernel_rfl) (by kernel_rfl) ?_
                 refine hK_59 _ ?_
                 refine AW.ra fokW [] ⟨[(1, .ptr 0 0), (3, .d (.bool r0_13)), (6, .d (I (wr (i1 + 1)))), (110, .ptr 0 9), (111, .d (.sl 3 (List.map e65 b.Trials))), (112, .d (I i1)), (113, .fp (e65 p1) 0), (114, .fp (e65 p1) 1), (115, .d (I p1.Lean_)), (116, .ptr 0 7), (117, .d (I b.Lean_)), (118, .d (I (wr (-b.Lean_)))), (119, .ptr 0 7), (120, .d (I b.Lean_)), (121, .d (.bool r0_13))], [(0, .var 25 (cv25 b))], 1, Fr.emp, [], 0⟩ (by kernel_rfl) ?_
                 obtain rfl := Option.some.inj h
                 exact hK_53 _ _ rfl (Can.kp (by kernel_rfl))
                ·have h := ifF hb_63 h
                 refine RunC.auX 14 ⟨[(1, .ptr 0 0), (3, .d (.bool false)), (6, .d (I i1)), (110, .undef), (111, .undef), (112, .undef), (113, .undef), (114, .undef), (115, .undef), (116, .undef), (117, .undef), (118, .undef), (119, .undef), (120, .undef), (121, .undef)], [(0, .var 25 (cv25 b))], 1, Fr.emp, [], 0⟩ (by kernel_rfl) ?_
                 refine RunC.fin ⟨[(1, .ptr 0 0), (3, .d (.bool false)), (6, .d (I i1)), (110, .undef), (111, .undef), (112, .undef), (113, .undef), (114, .undef), (115, .undef), (116, .undef), (117, .undef), (118, .undef), (119, .undef), (120, .undef), (121, .undef)], [(0, .var 25 (cv25 b))], 1, Fr.emp, [], 0⟩ (by kernel_rfl) (by kernel_rfl) ?_
                 refine hK_59 _ ?_
                 refine AW.ra fokW [] ⟨[(1, .ptr 0 0), (3, .d (.bool false)), (6, .d (I (wr (i1 + 1)))), (110, .undef), (111, .undef), (112, .undef), (113, .undef), (114, .undef), (115, .undef), (116, .undef), (117, .undef), (118, .undef), (119, .undef), (120, .undef), (121, .undef)], [(0, .var 25 (cv25 b))], 1, Fr.emp, [], 0⟩ (by kernel_rfl) ?_
                 obtain rfl := Option.some.inj h
                 exact hK_53 _ _ rfl (Can.kp (by kernel_rfl))
               ·have h := ifF hb_58 h
                refine AW.exit ?_
                obtain rfl := Option.some.inj h
                obtain rfl := hb_53 _ rfl
                exact hK_52 _ (Can.kp (by kernel_rfl))
             ·obtain rfl := Option.some.inj h
              exact hK_51 _ (Can.kp (by kernel_rfl))
            ·refine AW.sa fokW [] ⟨[(2, .d (.bool ok3))], [], 0, Fr.emp, [], 0⟩ (by kernel_rfl) ?_
             obtain rfl := Option.some.inj h
             exact AW.ret (hR_0 _ (retX (.cons (.tmp rfl) .nil) (.refl _) rfl (by kernel_rfl) (by kernel_rfl)))
def g41 (n : Int) (many : Int) : Option Int := bif (decide (many < 1)) then (some 0) else ((must (decide (many ≠ 0))).bind fun _ => bif (decide ((n.tmod many) < 0)) then (some (wr ((n.tmod many) + many))) else (some (n.tmod many)))
theorem k41 (n : Int) (many : Int) (r : Int) (h : g41 n many = some r) : SCall Tryd.prog Gs 41 [.d (I n), .d (I many)] [] 0 Fr.emp (.d (I r)) [] 0 Fr.emp := by
 unfold g41 at h
 refine SCall.mkK Tryd.func41 c41 rfl rfl (by kernel_rfl) (fun Q_0 hR_0 hN_0 => ?_)
 refine AW.sa fokW [] ⟨[(0, .d (I n)), (1, .d (I many))], [], 0, Fr.emp, [], 0⟩ (by kernel_rfl) ?_
 refine AW.seqK (fun K_1 hK_1 => ?_)
 refine AW.sa fokW [] ⟨[(0, .d (I n)), (1, .d (I many)), (7, .d (.bool (decide (many < 1))))], [], 0, Fr.emp, [], 0⟩ (by kernel_rfl) ?_
 refine AW.cond rfl (fun hb_2 => ?_) (fun hb_2 => ?_)
 ·have h := ifT hb_2 h
  refine AW.sa fokW [] ⟨[(4, .d (I 0))], [], 0, Fr.emp, [], 0⟩ (by kernel_rfl) ?_
  obtain rfl := Option.some.inj h
  exact AW.ret (hR_0 _ (retX (.cons (.tmp rfl) .nil) (.refl _) rfl (by kernel_rfl) (by kernel_rfl)))
 ·have h := ifF hb_2 h
  refine AW.skip ?_
  refine hK_1 _ ?_
  refine AW.srwK (fun Q_3 hQ_3 => ?_)
  refine RW.au fokW 2 [] ⟨[(1, .d (I many)), (8, .d (I n)), (9, .d (I many))], [], 0, Fr.emp, [], 0⟩ (by kernel_rfl) ?_
  obtain ⟨_, hv_4, h⟩ := bsome h
  refine RW.one fokW (r_rem trivial rfl rfl (of_decide_eq_true (must_ok hv_4)) (r_end ?_))
  refine RW.au fokW 1 [] ⟨[(1, .d (I many)), (5, .d (I (n.tmod many)))], [], 0, Fr.emp, [], 0⟩ (by kernel_rfl) ?_
  refine RW.nil ?_
  refine hQ_3 _ ?_
  refine AW.seqK (fun K_5 hK_5 => ?_)
  refine AW.sa fokW [] ⟨[(1, .d (I many)), (5, .d (I (n.tmod many))), (12, .d (.bool (decide ((n.tmod many) < 0))))], [], 0, Fr.emp, [], 0⟩ (by kernel_rfl) ?_
  refine AW.cond rfl (fun hb_6 => ?_) (fun hb_6 => ?_)
  ·have h := ifT hb_6 h
   refine AW.ra fokW [] ⟨[(5, .d (I (wr ((n.tmod many) + many))))], [], 0, Fr.emp, [], 0⟩ (by kernel_rfl) ?_
   refine hK_5 _ ?_
   refine AW.sa fokW [] ⟨[(4, .d (I (wr ((n.tmod many) + many))))], [], 0, Fr.emp, [], 0⟩ (by kernel_rfl) ?_
   obtain rfl := Option.some.inj h
   exact AW.ret (hR_0 _ (retX (.cons (.tmp rfl) .nil) (.refl _) rfl (by kernel_rfl) (by kernel_rfl)))
  ·have h := ifF hb_6 h
   refine AW.skip ?_
   refine hK_5 _ ?_
   refine AW.sa fokW [] ⟨[(4, .d (I (n.tmod many)))], [], 0, Fr.emp, [], 0⟩ (by kernel_rfl) ?_
   obtain rfl := Option.some.inj h
   exact AW.ret (hR_0 _ (retX (.cons (.tmp rfl) .nil) (.refl _) rfl (by kernel_rfl) (by kernel_rfl)))
def g89 (l : (List Int)) (n : Int) : Option Int := bif (decide ((l.length : Int) = 0)) then (some 0) else ((g41 n (l.length : Int)).bind fun r0_2 => (ixL l r0_2).bind fun p => some p)
theorem k89 (l : (List Int)) (n : Int) (r : Int) (h : g89 l n = some r) : SCall Tryd.prog Gs 89 [.d (.sl 1 (List.map e3 l)), .d (I n)] [] 0 Fr.emp (.d (I r)) [] 0 Fr.emp := by
 unfold g89 at h
 refine SCall.mkK Tryd.func89 c89 rfl rfl (by kernel_rfl) (fun Q_0 hR_0 hN_0 => ?_)
 refine AW.sa fokW [] ⟨[(0, .d (.sl 1 (List.map e3 l))), (1, .d (I n))], [], 0, Fr.emp, [], 0⟩ (by kernel_rfl) ?_
 refine AW.seqK (fun K_1 hK_1 => ?_)
 refine AW.srwK (fun Q_2 hQ_2 => ?_)
 refine RW.au fokW 1 [] ⟨[(0, .d (.sl 1 (List.map e3 l))), (1, .d (I n)), (5, .d (.sl 1 (List.map e3 l)))], [], 0, Fr.emp, [], 0⟩ (by kernel_rfl) ?_
 refine RW.one fokW (r_lenX trivial rfl lenm (r_end ?_))
 refine RW.au fokW 1 [] ⟨[(0, .d (.sl 1 (List.map e3 l))), (1, .d (I n)), (7, .d (.bool (decide ((l.length : Int) = 0))))], [], 0, Fr.emp, [], 0⟩ (by kernel_rfl) ?_
 refine RW.nil ?_
 refine hQ_2 _ ?_
 refine AW.cond rfl (fun hb_3 => ?_) (fun hb_3 => ?_)
 ·have h := ifT hb_3 h
  refine AW.sa fokW [] ⟨[(4, .d (I 0))], [], 0, Fr.emp, [], 0⟩ (by kernel_rfl) ?_
  obtain rfl := Option.some.inj h
  exact AW.ret (hR_0 _ (retX (.cons (.tmp rfl) .nil) (.refl _) rfl (by kernel_rfl) (by kernel_rfl)))
 ·have h := ifF hb_3 h
  refine AW.skip ?_
  refine hK_1 _ ?_
  refine AW.srwK (fun Q_4 hQ_4 => ?_)
  refine RW.au fokW 3 [] ⟨[(8, .d (.sl 1 (List.map e3 l))), (9, .d (I n)), (10, .d (.sl 1 (List.map e3 l)))], [], 0, Fr.emp, [], 0⟩ (by kernel_rfl) ?_
  refine RW.one fokW (r_lenX trivial rfl lenm (r_end ?_))
  obtain ⟨r0_2, hx_5, h⟩ := bsome h
  refine RW.one fokW (r_call trivial rfl (k41 n (l.length : Int) _ hx_5) rfl rfl (r_end ?_))
  obtain ⟨p, hv_6, h⟩ := bsome h
  refine RW.one fokW (r_iaD trivial rfl rfl (ixL_ok hv_6).1 (row := e3 p) (mapget (ixL_ok hv_6).2) (r_end ?_))
  refine RW.au fokW 2 [] ⟨[(4, .d (I p))], [], 0, Fr.emp, [], 0⟩ (by kernel_rfl) ?_
  refine RW.nil ?_
  refine hQ_4 _ ?_
  obtain rfl := Option.some.inj h
  exact AW.ret (hR_0 _ (retX (.cons (.tmp rfl) .nil) (.refl _) rfl (by kernel_rfl) (by kernel_rfl)))
def g88 (s : Span) (n : Int) : Option Int := (g41 n (wr ((wr (s.High - s.Low)) + 1))).bind fun r0_2 => some (wr (s.Low + r0_2))
theorem k88 (s : Span) (n : Int) (r : Int) (h : g88 s n = some r) : SCall Tryd.prog Gs 88 [.agg [.d (I s.Low), .d (I s.High)], .d (I n)] [] 0 Fr.emp (.d (I r)) [] 0 Fr.emp := by
 unfold g88 at h
 refine SCall.mkK Tryd.func88 c88 rfl rfl (by kernel_rfl) (fun Q_0 hR_0 hN_0 => ?_)
 refine AW.sa fokW [] ⟨[(1, .d (I n)), (2, .ptr 0 0)], [(0, .var 42 [.d (I s.Low), .d (I s.High)])], 1, Fr.emp, [], 0⟩ (by kernel_rfl) ?_
 refine AW.sdrwK fokW (fun Q_1 hQ_1 => ?_)
 refine RunC.auX 9 ⟨[(6, .d (I s.Low)), (7, .d (I n)), (13, .d (I (wr ((wr (s.High - s.Low)) + 1))))], [(0, .var 42 [.d (I s.Low), .d (I s.High)])], 1, Fr.emp, [], 0⟩ (by kernel_rfl) ?_
 obtain ⟨r0_2, hx_2, h⟩ := bsome h
 refine r_call trivial rfl (k41 n (wr ((wr (s.High - s.Low)) + 1)) _ hx_2) rfl rfl ?_
 refine RunC.auX 2 ⟨[(4, .d (I (wr (s.Low + r0_2))))], [(0, .var 42 [.d (I s.Low), .d (I s.High)])], 1, Fr.emp, [], 0⟩ (by kernel_rfl) ?_
 refine RunC.fin ⟨[(4, .d (I (wr (s.Low + r0_2))))], [], 1, Fr.emp, [], 0⟩ (by kernel_rfl) (by kernel_rfl) ?_
 refine hQ_1 _ ?_
 obtain rfl := Option.some.inj h
 exact AW.ret (hR_0 _ (retX (.cons (.tmp rfl) .nil) (.refl _) rfl (by kernel_rfl) (by kernel_rfl)))
def g39_2 (bits : (List Int)) : Int → StandPart → (List Int) → Option (List Int) := fun i p l => (g89 bits i).bind fun r0_1 => (g88 p.Weight r0_1).bind fun r0 => (appL 8 l [r0]).bind fun l1 => some l1
def g39 (b : StandBook) (bits : (List Int)) : Option (List Int) := (eachS (g39_2 bits) b.Parts 0 ([] : List Int)).bind fun l => some l
theorem k39 (b : StandBook) (bits : (List Int)) (r : (List Int)) (h : g39 b bits = some r) : SCall Tryd.prog Gs 39 [.agg (cv25 b), .d (.sl 1 (List.map e3 bits))] [] 0 Fr.emp (.d (.sl 1 (List.map e3 r))) [] 0 Fr.emp := by
 unfold g39 at h
 refine SCall.mkK Tryd.func39 c39 rfl rfl (by kernel_rfl) (fun Q_0 hR_0 hN_0 => ?_)
 refine AW.sa fokW [] ⟨[(1, .d (.sl 1 (List.map e3 bits))), (2, .ptr 0 0)], [(0, .var 25 (cv25 b))], 1, Fr.emp, [], 0⟩ (by kernel_rfl) ?_
 refine AW.sa fokW [] ⟨[(1, .d (.sl 1 (List.map e3 bits))), (2, .ptr 0 0), (5, .d (.nilSl))], [(0, .var 25 (cv25 b))], 1, Fr.emp, [], 0⟩ (by kernel_rfl) ?_
 refine AW.seqK (fun K_1 hK_1 => ?_)
 refine AW.sa fokW [] ⟨[(1, .d (.sl 1 (List.map e3 bits))), (2, .ptr 0 0), (5, .d (.nilSl)), (6, .d (I 0))], [(0, .var 25 (cv25 b))], 1, Fr.emp, [], 0⟩ (by kernel_rfl) ?_
 refine AW.block ?_
 refine AW.slh (r := 0) (off := 4) rfl rfl (fun hN_2 => ?_)
 rw [List.length_map] at hN_2
 obtain ⟨out_2, hx_2, h⟩ := bsome h
 refine AW.evSK (fun (i : Int) (l : List Int) => ⟨[(1, .d (.sl 1 (List.map e3 bits))), (2, .ptr 0 0), (5, .own 1 (List.map e3 l).length), (6, .d (I i))], [(1, .row 3 1 (List.map e3 l)), (0, .var 25 (cv25 b))], 2, Fr.emp, [], 0⟩) (g39_2 bits) hx_2 (Can.trans (Can.thawT 5 3 1 rfl rfl) (Can.kp (by kernel_rfl))) (fun i p l hi_2 hl_2 hp_2 c_2 h K_2 hK_2 => ?_) (fun i l hi_2 hl_2 hout => ?_)
 ·unfold g39_2 at h
  refine AW.seqK (fun K_3 hK_3 => ?_)
  refine AW.srwK (fun Q_4 hQ_4 => ?_)
  refine RW.au fokW 3 [] ⟨[(1, .d (.sl 1 (List.map e3 bits))), (2, .ptr 0 0), (5, .own 1 (List.map e3 l).length), (6, .d (I i)), (7, .d (I i)), (9, .d (.sl 4 (List.map e70 b.Parts)))], [(1, .row 3 1 (List.map e3 l)), (0, .var 25 (cv25 b))], 2, Fr.emp, [], 0⟩ (by kernel_rfl) ?_
  refine RW.one fokW (r_lenX trivial rfl lenm (r_end ?_))
  refine RW.au fokW 1 [] ⟨[(1, .d (.sl 1 (List.map e3 bits))), (2, .ptr 0 0), (5, .own 1 (List.map e3 l).length), (6, .d (I i)), (11, .d (.bool (decide (i < (b.Parts.length : Int)))))], [(1, .row 3 1 (List.map e3 l)), (0, .var 25 (cv25 b))], 2, Fr.emp, [], 0⟩ (by kernel_rfl) ?_
  refine RW.nil ?_
  refine hQ_4 _ ?_
  refine AW.cond rfl (fun hb_5 => ?_) (fun hb_5 => False.elim (by have := of_decide_eq_false hb_5; omega))
  refine AW.skip ?_
  refine hK_3 _ ?_
  refine AW.seqK (fun K_6 hK_6 => ?_)
  refine AW.block ?_
  refine AW.drw fokW ?_
  refine RunC.auX 4 ⟨[(1, .d (.sl 1 (List.map e3 bits))), (2, .ptr 0 0), (6, .d (I i)), (14, .own 1 (List.map e3 l).length), (16, .d (.sl 4 (List.map e70 b.Parts))), (17, .d (I i))], [(1, .row 3 1 (List.map e3 l)), (0, .var 25 (cv25 b))], 2, Fr.emp, [], 0⟩ (by kernel_rfl) ?_
  refine r_iaD trivial rfl rfl hi_2 (row := e70 p) (mapget hp_2) ?_
  refine RunC.auX 4 ⟨[(1, .d (.sl 1 (List.map e3 bits))), (2, .ptr 0 0), (6, .d (I i)), (14, .own 1 (List.map e3 l).length), (20, .agg [.d (I p.Weight.Low), .d (I p.Weight.High)]), (21, .d (.sl 1 (List.map e3 bits))), (22, .d (I i))], [(1, .row 3 1 (List.map e3 l)), (0, .var 25 (cv25 b))], 2, Fr.emp, [], 0⟩ (by kernel_rfl) ?_
  obtain ⟨r0_1, hx_8, h⟩ := bsome h
  refine r_call trivial rfl (k89 bits i _ hx_8) rfl rfl ?_
  obtain ⟨r0, hx_9, h⟩ := bsome h
  refine r_call trivial rfl (k88 p.Weight r0_1 _ hx_9) rfl rfl ?_
  refine RunC.auX 1 ⟨[(1, .d (.sl 1 (List.map e3 bits))), (2, .ptr 0 0), (6, .d (I i)), (14, .own 1 (List.map e3 l).length), (25, .own 2 (List.map e3 [r0]).length)], [(2, .row 3 1 (List.map e3 [r0])), (1, .row 3 1 (List.map e3 l)), (0, .var 25 (cv25 b))], 3, Fr.emp, [], 0⟩ (by kernel_rfl) ?_
  obtain ⟨l1, hv_10, h⟩ := bsome h
  refine r_apO trivial rfl rfl rfl rfl rfl rfl (apz hv_10 e3) (apr hv_10 e3) ?_
  refine RunC.auX 1 ⟨[(1, .d (.sl 1 (List.map e3 bits))), (2, .ptr 0 0), (5, .own 1 (List.map e3 l1).length), (6, .d (I i))], [(1, .row 3 1 (List.map e3 l1)), (2, .row 3 1 (List.map e3 [r0])), (0, .var 25 (cv25 b))], 3, Fr.emp, [], 0⟩ (by kernel_rfl) ?_
  refine RunC.fin ⟨[(1, .d (.sl 1 (List.map e3 bits))), (2, .ptr 0 0), (5, .own 1 (List.map e3 l1).length), (6, .d (I i))], [(1, .row 3 1 (List.map e3 l1)), (0, .var 25 (cv25 b))], 3, Fr.emp, [], 0⟩ (by kernel_rfl) (by kernel_rfl) ?_
  refine hK_6 _ ?_
  refine AW.ra fokW [] ⟨[(1, .d (.sl 1 (List.map e3 bits))), (2, .ptr 0 0), (5, .own 1 (List.map e3 l1).length), (6, .d (I (wr (i + 1))))], [(1, .row 3 1 (List.map e3 l1)), (0, .var 25 (cv25 b))], 3, Fr.emp, [], 0⟩ (by kernel_rfl) ?_
  obtain rfl := Option.some.inj h
  have ew : wr (i + 1) = i + 1 := inext (N := (b.Parts.length : Int)) (by omega) (by omega) (by omega)
  rw [ew]
  exact hK_2 _ (Can.kp (by kernel_rfl))
 ·subst hout
  refine AW.seqK (fun K_11 hK_11 => ?_)
  refine AW.srwK (fun Q_12 hQ_12 => ?_)
  refine RW.au fokW 3 [] ⟨[(1, .d (.sl 1 (List.map e3 bits))), (2, .ptr 0 0), (5, .own 1 (List.map e3 l).length), (6, .d (I i)), (7, .d (I i)), (9, .d (.sl 4 (List.map e70 b.Parts)))], [(1, .row 3 1 (List.map e3 l)), (0, .var 25 (cv25 b))], 2, Fr.emp, [], 0⟩ (by kernel_rfl) ?_
  refine RW.one fokW (r_lenX trivial rfl lenm (r_end ?_))
  refine RW.au fokW 1 [] ⟨[(1, .d (.sl 1 (List.map e3 bits))), (2, .ptr 0 0), (5, .own 1 (List.map e3 l).length), (6, .d (I i)), (11, .d (.bool (decide (i < (b.Parts.length : Int)))))], [(1, .row 3 1 (List.map e3 l)), (0, .var 25 (cv25 b))], 2, Fr.emp, [], 0⟩ (by kernel_rfl) ?_
  refine RW.nil ?_
  refine hQ_12 _ ?_
  refine AW.cond rfl (fun hb_13 => False.elim (by have := of_decide_eq_true hb_13; omega)) (fun hb_13 => ?_)
  refine AW.exit ?_
  refine hK_1 _ ?_
  refine AW.sa fokW [] ⟨[(4, .own 1 (List.map e3 l).length)], [(1, .row 3 1 (List.map e3 l))], 2, Fr.emp, [], 0⟩ (by kernel_rfl) ?_
  obtain rfl := Option.some.inj h
  exact AW.ret (hR_0 _ (retX (.cons (.tmp rfl) .nil) (.own rfl rfl) rfl (by kernel_rfl) (by kernel_rfl)))
def g90 (b : StandBook) (weight : Int) (along : Int) (high : Int) (front : Bool) : Option Int := (bif front then (some ((wr (-along)), b.Front)) else (some (along, b.Back))).bind fun (along1, foot) => bif (decide (b.Kind = 0)) then (some (wr (weight * (wr (foot + along1))))) else (some (wr (weight * (wr ((wr (foot * (wr (b.Radius - high)))) + (wr (b.Radius * along1)))))))
theorem k90 (b : StandBook) (weight : Int) (along : Int) (high : Int) (front : Bool) (r : Int) (h : g90 b weight along high front = some r) : SCall Tryd.prog Gs 90 [.agg (cv25 b), .d (I weight), .d (I along), .d (I high), .d (.bool front)] [] 0 Fr.emp (.d (I r)) [] 0 Fr.emp := by
 unfold g90 at h
 refine SCall.mkK Tryd.func90 c90 rfl rfl (by kernel_rfl) (fun Q_0 hR_0 hN_0 => ?_)
 refine AW.sa fokW [] ⟨[(1, .d (I weight)), (2, .d (I along)), (3, .d (I high)), (4, .d (.bool front)), (5, .ptr 0 0)], [(0, .var 25 (cv25 b))], 1, Fr.emp, [], 0⟩ (by kernel_rfl) ?_
 refine AW.sa fokW [] ⟨[(1, .d (I weight)), (2, .d (I along)), (3, .d (I high)), (4, .d (.bool front)), (5, .ptr 0 0), (11, .d (I b.Back))], [(0, .var 25 (cv25 b))], 1, Fr.emp, [], 0⟩ (by kernel_rfl) ?_
 obtain ⟨c_1, hx_1, h⟩ := bsome h
 refine AW.jnSK (fun (⟨along1, foot⟩ : Int × Int) => ⟨[(1, .d (I weight)), (2, .d (I along1)), (3, .d (I high)), (5, .ptr 0 0), (11, .d (I foot))], [(0, .var 25 (cv25 b))], 1, Fr.emp, [], 0⟩) (c := c_1) (fun K_1 hK_1 => ?_) ?_
 ·have h := hx_1
  refine AW.sa fokW [] ⟨[(1, .d (I weight)), (2, .d (I along)), (3, .d (I high)), (5, .ptr 0 0), (11, .d (I b.Back)), (14, .d (.bool front))], [(0, .var 25 (cv25 b))], 1, Fr.emp, [], 0⟩ (by kernel_rfl) ?_
  refine AW.cond rfl (fun hb_2 => ?_) (fun hb_2 => ?_)
  ·have h := ifT hb_2 h
   refine AW.ra fokW [] ⟨[(1, .d (I weight)), (2, .d (I (wr (-along)))), (3, .d (I high)), (5, .ptr 0 0), (11, .d (I b.Front))], [(0, .var 25 (cv25 b))], 1, Fr.emp, [], 0⟩ (by kernel_rfl) ?_
   obtain rfl := Option.some.inj h
   exact hK_1 _ (Can.kp (by kernel_rfl))
  ·have h := ifF hb_2 h
   refine AW.skip ?_
   obtain rfl := Option.some.inj h
   exact hK_1 _ (Can.kp (by kernel_rfl))
 ·obtain ⟨along1, foot⟩ := c_1
  refine AW.seqK (fun K_3 hK_3 => ?_)
  refine AW.sa fokW [] ⟨[(1, .d (I weight)), (2, .d (I along1)), (3, .d (I high)), (5, .ptr 0 0), (11, .d (I foot)), (21, .d (.bool (decide (b.Kind = 0))))], [(0, .var 25 (cv25 b))], 1, Fr.emp, [], 0⟩ (by kernel_rfl) ?_
  refine AW.cond rfl (fun hb_4 => ?_) (fun hb_4 => ?_)
  ·have h := ifT hb_4 h
   refine AW.sa fokW [] ⟨[(10, .d (I (wr (weight * (wr (foot + along1))))))], [], 1, Fr.emp, [], 0⟩ (by kernel_rfl) ?_
   obtain rfl := Option.some.inj h
   exact AW.ret (hR_0 _ (retX (.cons (.tmp rfl) .nil) (.refl _) rfl (by kernel_rfl) (by kernel_rfl)))
  ·have h := ifF hb_4 h
   refine AW.skip ?_
   refine hK_3 _ ?_
   refine AW.sa fokW [] ⟨[(10, .d (I (wr (weight * (wr ((wr (foot * (wr (b.Radius - high)))) + (wr (b.Radius * along1))))))))], [], 1, Fr.emp, [], 0⟩ (by kernel_rfl) ?_
   obtain rfl := Option.some.inj h
   exact AW.ret (hR_0 _ (retX (.cons (.tmp rfl) .nil) (.refl _) rfl (by kernel_rfl) (by kernel_rfl)))
def g42_5 (b : StandBook) : Int → Int → (Int × Int × Int) → Option (Int × Int × Int) := fun i p (w, back, front) => (ixL b.Parts i).bind fun p1 => (g90 b p p1.Along p1.High false).bind fun r0_1_2 => (g90 b p p1.Along p1.High true).bind fun r0_1_3 => some ((wr (w + p)), (wr (back + r0_1_2)), (wr (front + r0_1_3)))
def g42 (b : StandBook) (weights : (List Int)) (weight : Int) (lean : Int) : Option (Int × Int) := (g90 b weight (wr (b.Along + lean)) b.High false).bind fun r0_1 => (g90 b weight (wr (b.Along + lean)) b.High true).bind fun r0_1_1 => (eachS (g42_5 b) weights 0 (weight, r0_1, r0_1_1)).bind fun (w, back, front) => some ((min back front), w)
theorem k42 (b : StandBook) (weights : (List Int)) (weight : Int) (lean : Int) (r : Int × Int) (h : g42 b weights weight lean = some r) : SCall Tryd.prog Gs 42 [.agg (cv25 b), .d (.sl 1 (List.map e3 weights)), .d (I weight), .d (I lean)] [] 0 Fr.emp (match r with | (r0, r1) => .tup [.d (I r0), .d (I r1)]) [] 0 Fr.emp := by
 unfold g42 at h
 refine SCall.mkK Tryd.func42 c42 rfl rfl (by kernel_rfl) (fun Q_0 hR_0 hN_0 => ?_)
 refine AW.sa fokW [] ⟨[(1, .d (.sl 1 (List.map e3 weights))), (2, .d (I weight)), (3, .d (I lean)), (4, .ptr 0 0)], [(0, .var 25 (cv25 b))], 1, Fr.emp, [], 0⟩ (by kernel_rfl) ?_
 refine AW.sa fokW [] ⟨[(1, .d (.sl 1 (List.map e3 weights))), (2, .d (I weight)), (3, .d (I lean)), (4, .ptr 0 0), (10, .d (I weight))], [(0, .var 25 (cv25 b))], 1, Fr.emp, [], 0⟩ (by kernel_rfl) ?_
 refine AW.sdrwK fokW (fun Q_1 hQ_1 => ?_)
 refine RunC.auX 8 ⟨[(1, .d (.sl 1 (List.map e3 weights))), (2, .d (I weight)), (3, .d (I lean)), (4, .ptr 0 0), (10, .d (I weight)), (16, .agg (cv25 b)), (17, .d (I weight)), (21, .d (I (wr (b.Along + lean)))), (23, .d (I b.High))], [(0, .var 25 (cv25 b))], 1, Fr.emp, [], 0⟩ (by kernel_rfl) ?_
 obtain ⟨r0_1, hx_2, h⟩ := bsome h
 refine r_call trivial rfl (k90 b weight (wr (b.Along + lean)) b.High false _ hx_2) rfl rfl ?_
 refine RunC.auX 8 ⟨[(1, .d (.sl 1 (List.map e3 weights))), (4, .ptr 0 0), (10, .d (I weight)), (24, .d (I r0_1)), (25, .agg (cv25 b)), (26, .d (I weight)), (30, .d (I (wr (b.Along + lean)))), (32, .d (I b.High))], [(0, .var 25 (cv25 b))], 1, Fr.emp, [], 0⟩ (by kernel_rfl) ?_
 obtain ⟨r0_1_1, hx_3, h⟩ := bsome h
 refine r_call trivial rfl (k90 b weight (wr (b.Along + lean)) b.High true _ hx_3) rfl rfl ?_
 refine RunC.auX 2 ⟨[(1, .d (.sl 1 (List.map e3 weights))), (4, .ptr 0 0), (10, .d (I weight)), (11, .d (I r0_1)), (12, .d (I r0_1_1))], [(0, .var 25 (cv25 b))], 1, Fr.emp, [], 0⟩ (by kernel_rfl) ?_
 refine RunC.fin ⟨[(1, .d (.sl 1 (List.map e3 weights))), (4, .ptr 0 0), (10, .d (I weight)), (11, .d (I r0_1)), (12, .d (I r0_1_1))], [(0, .var 25 (cv25 b))], 1, Fr.emp, [], 0⟩ (by kernel_rfl) (by kernel_rfl) ?_
 refine hQ_1 _ ?_
 refine AW.seqK (fun K_4 hK_4 => ?_)
 refine AW.sa fokW [] ⟨[(1, .d (.sl 1 (List.map e3 weights))), (4, .ptr 0 0), (10, .d (I weight)), (11, .d (I r0_1)), (12, .d (I r0_1_1)), (13, .d (I 0))], [(0, .var 25 (cv25 b))], 1, Fr.emp, [], 0⟩ (by kernel_rfl) ?_
 refine AW.block ?_
 refine AW.sln (t := 1) rfl (fun hN_5 => ?_)
 rw [List.length_map] at hN_5
 obtain ⟨out_5, hx_5, h⟩ := bsome h
 refine AW.evSK (fun (i : Int) (⟨w, back, front⟩ : Int × Int × Int) => ⟨[(1, .d (.sl 1 (List.map e3 weights))), (4, .ptr 0 0), (10, .d (I w)), (11, .d (I back)), (12, .d (I front)), (13, .d (I i))], [(0, .var 25 (cv25 b))], 1, Fr.emp, [], 0⟩) (g42_5 b) hx_5 (Can.kp (by kernel_rfl)) (fun i p s_5 hi_5 hl_5 hp_5 c_5 h K_5 hK_5 => ?_) (fun i s_5 hi_5 hl_5 hout => ?_)
 ·obtain ⟨w, back, front⟩ := s_5
  unfold g42_5 at h
  refine AW.seqK (fun K_6 hK_6 => ?_)
  refine AW.srwK (fun Q_7 hQ_7 => ?_)
  refine RW.au fokW 2 [] ⟨[(1, .d (.sl 1 (List.map e3 weights))), (4, .ptr 0 0), (10, .d (I w)), (11, .d (I back)), (12, .d (I front)), (13, .d (I i)), (34, .d (I i)), (35, .d (.sl 1 (List.map e3 weights)))], [(0, .var 25 (cv25 b))], 1, Fr.emp, [], 0⟩ (by kernel_rfl) ?_
  refine RW.one fokW (r_lenX trivial rfl lenm (r_end ?_))
  refine RW.au fokW 1 [] ⟨[(1, .d (.sl 1 (List.map e3 weights))), (4, .ptr 0 0), (10, .d (I w)), (11, .d (I back)), (12, .d (I front)), (13, .d (I i)), (37, .d (.bool (decide (i < (weights.length : Int)))))], [(0, .var 25 (cv25 b))], 1, Fr.emp, [], 0⟩ (by kernel_rfl) ?_
  refine RW.nil ?_
  refine hQ_7 _ ?_
  refine AW.cond rfl (fun hb_8 => ?_) (fun hb_8 => False.elim (by have := of_decide_eq_false hb_8; omega))
  refine AW.skip ?_
  refine hK_6 _ ?_
  refine AW.seqK (fun K_9 hK_9 => ?_)
  refine AW.block ?_
  refine AW.srwK (fun Q_10 hQ_10 => ?_)
  refine RW.au fokW 3 [] ⟨[(1, .d (.sl 1 (List.map e3 weights))), (4, .ptr 0 0), (10, .d (I w)), (11, .d (I back)), (12, .d (I front)), (13, .d (I i)), (41, .d (.sl 4 (List.map e70 b.Parts))), (42, .d (I i))], [(0, .var 25 (cv25 b))], 1, Fr.emp, [], 0⟩ (by kernel_rfl) ?_
  obtain ⟨p1, hv_11, h⟩ := bsome h
  refine RW.one fokW (r_iaD trivial rfl rfl (ixL_ok hv_11).1 (row := e70 p1) (mapget (ixL_ok hv_11).2) (r_end ?_))
  refine RW.au fokW 3 [] ⟨[(1, .d (.sl 1 (List.map e3 weights))), (4, .ptr 0 0), (10, .d (I w)), (11, .d (I back)), (12, .d (I front)), (13, .d (I i)), (14, .ptr 1 0)], [(1, .var 70 (cv70 p1)), (0, .var 25 (cv25 b))], 2, Fr.emp, [], 0⟩ (by kernel_rfl) ?_
  refine RW.nil ?_
  refine hQ_10 _ ?_
  refine AW.srwK (fun Q_12 hQ_12 => ?_)
  refine RW.au fokW 3 [] ⟨[(1, .d (.sl 1 (List.map e3 weights))), (4, .ptr 0 0), (11, .d (I back)), (12, .d (I front)), (13, .d (I i)), (14, .ptr 1 0), (45, .d (I w)), (46, .d (.sl 1 (List.map e3 weights))), (47, .d (I i))], [(1, .var 70 (cv70 p1)), (0, .var 25 (cv25 b))], 2, Fr.emp, [], 0⟩ (by kernel_rfl) ?_
  refine RW.one fokW (r_iaD trivial rfl rfl hi_5 (row := e3 p) (mapget hp_5) (r_end ?_))
  refine RW.au fokW 3 [] ⟨[(1, .d (.sl 1 (List.map e3 weights))), (4, .ptr 0 0), (10, .d (I (wr (w + p)))), (11, .d (I back)), (12, .d (I front)), (13, .d (I i)), (14, .ptr 1 0)], [(1, .var 70 (cv70 p1)), (0, .var 25 (cv25 b))], 2, Fr.emp, [], 0⟩ (by kernel_rfl) ?_
  refine RW.nil ?_
  refine hQ_12 _ ?_
  refine AW.sdrwK fokW (fun Q_13 hQ_13 => ?_)
  refine RunC.auX 4 ⟨[(1, .d (.sl 1 (List.map e3 weights))), (4, .ptr 0 0), (10, .d (I (wr (w + p)))), (12, .d (I front)), (13, .d (I i)), (14, .ptr 1 0), (51, .d (I back)), (52, .agg (cv25 b)), (53, .d (.sl 1 (List.map e3 weights))), (54, .d (I i))], [(1, .var 70 (cv70 p1)), (0, .var 25 (cv25 b))], 2, Fr.emp, [], 0⟩ (by kernel_rfl) ?_
  refine r_iaD trivial rfl rfl hi_5 (row := e3 p) (mapget hp_5) ?_
  refine RunC.auX 5 ⟨[(1, .d (.sl 1 (List.map e3 weights))), (4, .ptr 0 0), (10, .d (I (wr (w + p)))), (12, .d (I front)), (13, .d (I i)), (14, .ptr 1 0), (51, .d (I back)), (52, .agg (cv25 b)), (56, .d (I p)), (58, .d (I p1.Along)), (60, .d (I p1.High))], [(1, .var 70 (cv70 p1)), (0, .var 25 (cv25 b))], 2, Fr.emp, [], 0⟩ (by kernel_rfl) ?_
  obtain ⟨r0_1_2, hx_14, h⟩ := bsome h
  refine r_call trivial rfl (k90 b p p1.Along p1.High false _ hx_14) rfl rfl ?_
  refine RunC.auX 2 ⟨[(1, .d (.sl 1 (List.map e3 weights))), (4, .ptr 0 0), (10, .d (I (wr (w + p)))), (11, .d (I (wr (back + r0_1_2)))), (12, .d (I front)), (13, .d (I i)), (14, .ptr 1 0)], [(1, .var 70 (cv70 p1)), (0, .var 25 (cv25 b))], 2, Fr.emp, [], 0⟩ (by kernel_rfl) ?_
  refine RunC.fin ⟨[(1, .d (.sl 1 (List.map e3 weights))), (4, .ptr 0 0), (10, .d (I (wr (w + p)))), (11, .d (I (wr (back + r0_1_2)))), (12, .d (I front)), (13, .d (I i)), (14, .ptr 1 0)], [(1, .var 70 (cv70 p1)), (0, .var 25 (cv25 b))], 2, Fr.emp, [], 0⟩ (by kernel_rfl) (by kernel_rfl) ?_
  refine hQ_13 _ ?_
  refine AW.drw fokW ?_
  refine RunC.auX 4 ⟨[(1, .d (.sl 1 (List.map e3 weights))), (4, .ptr 0 0), (10, .d (I (wr (w + p)))), (11, .d (I (wr (back + r0_1_2)))), (13, .d (I i)), (14, .ptr 1 0), (63, .d (I front)), (64, .agg (cv25 b)), (65, .d (.sl 1 (List.map e3 weights))), (66, .d (I i))], [(1, .var 70 (cv70 p1)), (0, .var 25 (cv25 b))], 2, Fr.emp, [], 0⟩ (by kernel_rfl) ?_
  refine r_iaD trivial rfl rfl hi_5 (row := e3 p) (mapget hp_5) ?_
  refine RunC.auX 5 ⟨[(1, .d (.sl 1 (List.map e3 weights))), (4, .ptr 0 0), (10, .d (I (wr (w + p)))), (11, .d (I (wr (back + r0_1_2)))), (13, .d (I i)), (63, .d (I front)), (64, .agg (cv25 b)), (68, .d (I p)), (70, .d (I p1.Along)), (72, .d (I p1.High))], [(1, .var 70 (cv70 p1)), (0, .var 25 (cv25 b))], 2, Fr.emp, [], 0⟩ (by kernel_rfl) ?_
  obtain ⟨r0_1_3, hx_16, h⟩ := bsome h
  refine r_call trivial rfl (k90 b p p1.Along p1.High true _ hx_16) rfl rfl ?_
  refine RunC.auX 2 ⟨[(1, .d (.sl 1 (List.map e3 weights))), (4, .ptr 0 0), (10, .d (I (wr (w + p)))), (11, .d (I (wr (back + r0_1_2)))), (12, .d (I (wr (front + r0_1_3)))), (13, .d (I i))], [(1, .var 70 (cv70 p1)), (0, .var 25 (cv25 b))], 2, Fr.emp, [], 0⟩ (by kernel_rfl) ?_
  refine RunC.fin ⟨[(1, .d (.sl 1 (List.map e3 weights))), (4, .ptr 0 0), (10, .d (I (wr (w + p)))), (11, .d (I (wr (back + r0_1_2)))), (12, .d (I (wr (front + r0_1_3)))), (13, .d (I i))], [(0, .var 25 (cv25 b))], 2, Fr.emp, [], 0⟩ (by kernel_rfl) (by kernel_rfl) ?_
  refine hK_9 _ ?_
  refine AW.ra fokW [] ⟨[(1, .d (.sl 1 (List.map e3 weights))), (4, .ptr 0 0), (10, .d (I (wr (w + p)))), (11, .d (I (wr (back + r0_1_2)))), (12, .d (I (wr (front + r0_1_3)))), (13, .d (I (wr (i + 1))))], [(0, .var 25 (cv25 b))], 2, Fr.emp, [], 0⟩ (by kernel_rfl) ?_
  obtain rfl := Option.some.inj h
  have ew : wr (i + 1) = i + 1 := inext (N := (weights.length : Int)) (by omega) (by omega) (by omega)
  rw [ew]
  exact hK_5 _ (Can.kp (by kernel_rfl))
 ·obtain ⟨w, back, front⟩ := s_5
  subst hout
  refine AW.seqK (fun K_17 hK_17 => ?_)
  refine AW.srwK (fun Q_18 hQ_18 => ?_)
  refine RW.au fokW 2 [] ⟨[(1, .d (.sl 1 (List.map e3 weights))), (4, .ptr 0 0), (10, .d (I w)), (11, .d (I back)), (12, .d (I front)), (13, .d (I i)), (34, .d (I i)), (35, .d (.sl 1 (List.map e3 weights)))], [(0, .var 25 (cv25 b))], 1, Fr.emp, [], 0⟩ (by kernel_rfl) ?_
  refine RW.one fokW (r_lenX trivial rfl lenm (r_end ?_))
  refine RW.au fokW 1 [] ⟨[(1, .d (.sl 1 (List.map e3 weights))), (4, .ptr 0 0), (10, .d (I w)), (11, .d (I back)), (12, .d (I front)), (13, .d (I i)), (37, .d (.bool (decide (i < (weights.length : Int)))))], [(0, .var 25 (cv25 b))], 1, Fr.emp, [], 0⟩ (by kernel_rfl) ?_
  refine RW.nil ?_
  refine hQ_18 _ ?_
  refine AW.cond rfl (fun hb_19 => False.elim (by have := of_decide_eq_true hb_19; omega)) (fun hb_19 => ?_)
  refine AW.exit ?_
  refine hK_4 _ ?_
  refine AW.sa fokW [] ⟨[(8, .d (I (min back front))), (9, .d (I w))], [], 1, Fr.emp, [], 0⟩ (by kernel_rfl) ?_
  obtain rfl := Option.some.inj h
  exact AW.ret (hR_0 _ (retX (.cons (.tmp rfl) (.cons (.tmp rfl) .nil)) (.refl _) rfl (by kernel_rfl) (by kernel_rfl)))
def g40_2 (b : StandBook) (weights : (List Int)) : Int → StandTrial → (List StandTrial) → Option (List StandTrial) := fun i p l => (g42 b weights p.Weight p.Lean_).bind fun (r0, r1) => (appL 24 l [(StandTrial.mk p.Weight p.Lean_ (decide (r0 < 0)))]).bind fun l1 => some l1
def g40 (b : StandBook) (weights : (List Int)) : Option StandBook := (eachS (g40_2 b weights) b.Trials 0 ([] : List StandTrial)).bind fun l => some (StandBook.mk b.Kind b.Front b.Back b.Radius b.Parts b.Along b.High b.Lean_ b.Limit l)
theorem k40 (b : StandBook) (weights : (List Int)) (r : StandBook) (h : g40 b weights = some r) : SCall Tryd.prog Gs 40 [.agg (cv25 b), .d (.sl 1 (List.map e3 weights))] [] 0 Fr.emp (.agg (cv25 r)) [] 0 Fr.emp := by
 unfold g40 at h
 refine SCall.mkK Tryd.func40 c40 rfl rfl (by kernel_rfl) (fun Q_0 hR_0 hN_0 => ?_)
 refine AW.sa fokW [] ⟨[(1, .d (.sl 1 (List.map e3 weights))), (2, .ptr 0 0), (4, .ptr 1 0)], [(1, .var 25 [.d (I 0), .d (I 0), .d (I 0), .d (I 0), .d (.nilSl), .d (I 0), .d (I 0), .d (I 0), .d (I 0), .d (.nilSl)]), (0, .var 25 (cv25 b))], 2, Fr.emp, [], 0⟩ (by kernel_rfl) ?_
 refine AW.sa fokW [] ⟨[(1, .d (.sl 1 (List.map e3 weights))), (2, .ptr 0 0), (4, .ptr 1 0), (5, .ptr 2 0)], [(2, .var 25 (cv25 b)), (1, .var 25 [.d (I 0), .d (I 0), .d (I 0), .d (I 0), .d (.nilSl), .d (I 0), .d (I 0), .d (I 0), .d (I 0), .d (.nilSl)]), (0, .var 25 (cv25 b))], 3, Fr.emp, [], 0⟩ (by kernel_rfl) ?_
 refine AW.sa fokW [] ⟨[(1, .d (.sl 1 (List.map e3 weights))), (2, .ptr 0 0), (4, .ptr 1 0), (5, .ptr 2 0)], [(2, .var 25 [.d (I b.Kind), .d (I b.Front), .d (I b.Back), .d (I b.Radius), .d (.sl 4 (List.map e70 b.Parts)), .d (I b.Along), .d (I b.High), .d (I b.Lean_), .d (I b.Limit), .d (.nilSl)]), (1, .var 25 [.d (I 0), .d (I 0), .d (I 0), .d (I 0), .d (.nilSl), .d (I 0), .d (I 0), .d (I 0), .d (I 0), .d (.nilSl)]), (0, .var 25 (cv25 b))], 3, Fr.emp, [], 0⟩ (by kernel_rfl) ?_
 refine AW.seqK (fun K_1 hK_1 => ?_)
 refine AW.sa fokW [] ⟨[(1, .d (.sl 1 (List.map e3 weights))), (2, .ptr 0 0), (4, .ptr 1 0), (5, .ptr 2 0), (6, .d (I 0))], [(2, .var 25 [.d (I b.Kind), .d (I b.Front), .d (I b.Back), .d (I b.Radius), .d (.sl 4 (List.map e70 b.Parts)), .d (I b.Along), .d (I b.High), .d (I b.Lean_), .d (I b.Limit), .d (.nilSl)]), (1, .var 25 [.d (I 0), .d (I 0), .d (I 0), .d (I 0), .d (.nilSl), .d (I 0), .d (I 0), .d (I 0), .d (I 0), .d (.nilSl)]), (0, .var 25 (cv25 b))], 3, Fr.emp, [], 0⟩ (by kernel_rfl) ?_
 refine AW.block ?_
 refine AW.slh (r := 0) (off := 9) rfl rfl (fun hN_2 => ?_)
 rw [List.length_map] at hN_2
 obtain ⟨out_2, hx_2, h⟩ := bsome h
 refine AW.evSK (fun (i : Int) (l : List StandTrial) => ⟨[(1, .d (.sl 1 (List.map e3 weights))), (2, .ptr 0 0), (4, .ptr 1 0), (5, .ptr 2 0), (6, .d (I i))], [(2, .var 25 [.d (I b.Kind), .d (I b.Front), .d (I b.Back), .d (I b.Radius), .d (.sl 4 (List.map e70 b.Parts)), .d (I b.Along), .d (I b.High), .d (I b.Lean_), .d (I b.Limit), .own 3 (List.map e65 l).length]), (3, .row 65 3 (List.map e65 l)), (1, .var 25 [.d (I 0), .d (I 0), .d (I 0), .d (I 0), .d (.nilSl), .d (I 0), .d (I 0), .d (I 0), .d (I 0), .d (.nilSl)]), (0, .var 25 (cv25 b))], 4, Fr.emp, [], 0⟩) (g40_2 b weights) hx_2 (Can.trans (Can.thawH 2 9 25 65 3 rfl rfl rfl) (Can.kp (by kernel_rfl))) (fun i p l hi_2 hl_2 hp_2 c_2 h K_2 hK_2 => ?_) (fun i l hi_2 hl_2 hout => ?_)
 ·unfold g40_2 at h
  refine AW.seqK (fun K_3 hK_3 => ?_)
  refine AW.srwK (fun Q_4 hQ_4 => ?_)
  refine RW.au fokW 3 [] ⟨[(1, .d (.sl 1 (List.map e3 weights))), (2, .ptr 0 0), (4, .ptr 1 0), (5, .ptr 2 0), (6, .d (I i)), (12, .d (I i)), (14, .d (.sl 3 (List.map e65 b.Trials)))], [(2, .var 25 [.d (I b.Kind), .d (I b.Front), .d (I b.Back), .d (I b.Radius), .d (.sl 4 (List.map e70 b.Parts)), .d (I b.Along), .d (I b.High), .d (I b.Lean_), .d (I b.Limit), .own 3 (List.map e65 l).length]), (3, .row 65 3 (List.map e65 l)), (1, .var 25 [.d (I 0), .d (I 0), .d (I 0), .d (I 0), .d (.nilSl), .d (I 0), .d (I 0), .d (I 0), .d (I 0), .d (.nilSl)]), (0, .var 25 (cv25 b))], 4, Fr.emp, [], 0⟩ (by kernel_rfl) ?_
  refine RW.one fokW (r_lenX trivial rfl lenm (r_end ?_))
  refine RW.au fokW 1 [] ⟨[(1, .d (.sl 1 (List.map e3 weights))), (2, .ptr 0 0), (4, .ptr 1 0), (5, .ptr 2 0), (6, .d (I i)), (16, .d (.bool (decide (i < (b.Trials.length : Int)))))], [(2, .var 25 [.d (I b.Kind), .d (I b.Front), .d (I b.Back), .d (I b.Radius), .d (.sl 4 (List.map e70 b.Parts)), .d (I b.Along), .d (I b.High), .d (I b.Lean_), .d (I b.Limit), .own 3 (List.map e65 l).length]), (3, .row 65 3 (List.map e65 l)), (1, .var 25 [.d (I 0), .d (I 0), .d (I 0), .d (I 0), .d (.nilSl), .d (I 0), .d (I 0), .d (I 0), .d (I 0), .d (.nilSl)]), (0, .var 25 (cv25 b))], 4, Fr.emp, [], 0⟩ (by kernel_rfl) ?_
  refine RW.nil ?_
  refine hQ_4 _ ?_
  refine AW.cond rfl (fun hb_5 => ?_) (fun hb_5 => False.elim (by have := of_decide_eq_false hb_5; omega))
  refine AW.skip ?_
  refine hK_3 _ ?_
  refine AW.seqK (fun K_6 hK_6 => ?_)
  refine AW.block ?_
  refine AW.srwK (fun Q_7 hQ_7 => ?_)
  refine RW.au fokW 3 [] ⟨[(1, .d (.sl 1 (List.map e3 weights))), (2, .ptr 0 0), (4, .ptr 1 0), (5, .ptr 2 0), (6, .d (I i)), (20, .d (.sl 3 (List.map e65 b.Trials))), (21, .d (I i))], [(2, .var 25 [.d (I b.Kind), .d (I b.Front), .d (I b.Back), .d (I b.Radius), .d (.sl 4 (List.map e70 b.Parts)), .d (I b.Along), .d (I b.High), .d (I b.Lean_), .d (I b.Limit), .own 3 (List.map e65 l).length]), (3, .row 65 3 (List.map e65 l)), (1, .var 25 [.d (I 0), .d (I 0), .d (I 0), .d (I 0), .d (.nilSl), .d (I 0), .d (I 0), .d (I 0), .d (I 0), .d (.nilSl)]), (0, .var 25 (cv25 b))], 4, Fr.emp, [], 0⟩ (by kernel_rfl) ?_
  refine RW.one fokW (r_iaD trivial rfl rfl hi_2 (row := e65 p) (mapget hp_2) (r_end ?_))
  refine RW.au fokW 3 [] ⟨[(1, .d (.sl 1 (List.map e3 weights))), (2, .ptr 0 0), (4, .ptr 1 0), (5, .ptr 2 0), (6, .d (I i)), (7, .ptr 4 0)], [(4, .var 65 [.d (I p.Weight), .d (I p.Lean_), .d (.bool p.Tipped)]), (2, .var 25 [.d (I b.Kind), .d (I b.Front), .d (I b.Back), .d (I b.Radius), .d (.sl 4 (List.map e70 b.Parts)), .d (I b.Along), .d (I b.High), .d (I b.Lean_), .d (I b.Limit), .own 3 (List.map e65 l).length]), (3, .row 65 3 (List.map e65 l)), (1, .var 25 [.d (I 0), .d (I 0), .d (I 0), .d (I 0), .d (.nilSl), .d (I 0), .d (I 0), .d (I 0), .d (I 0), .d (.nilSl)]), (0, .var 25 (cv25 b))], 5, Fr.emp, [], 0⟩ (by kernel_rfl) ?_
  refine RW.nil ?_
  refine hQ_7 _ ?_
  refine AW.srwK (fun Q_8 hQ_8 => ?_)
  refine RW.au fokW 6 [] ⟨[(1, .d (.sl 1 (List.map e3 weights))), (2, .ptr 0 0), (4, .ptr 1 0), (5, .ptr 2 0), (6, .d (I i)), (7, .ptr 4 0), (25, .agg (cv25 b)), (26, .d (.sl 1 (List.map e3 weights))), (28, .d (I p.Weight)), (30, .d (I p.Lean_))], [(4, .var 65 [.d (I p.Weight), .d (I p.Lean_), .d (.bool p.Tipped)]), (2, .var 25 [.d (I b.Kind), .d (I b.Front), .d (I b.Back), .d (I b.Radius), .d (.sl 4 (List.map e70 b.Parts)), .d (I b.Along), .d (I b.High), .d (I b.Lean_), .d (I b.Limit), .own 3 (List.map e65 l).length]), (3, .row 65 3 (List.map e65 l)), (1, .var 25 [.d (I 0), .d (I 0), .d (I 0), .d (I 0), .d (.nilSl), .d (I 0), .d (I 0), .d (I 0), .d (I 0), .d (.nilSl)]), (0, .var 25 (cv25 b))], 5, Fr.emp, [], 0⟩ (by kernel_rfl) ?_
  obtain ⟨⟨r0, r1⟩, hx_9, h⟩ := bsome h
  refine RW.one fokW (r_call trivial rfl (k42 b weights p.Weight p.Lean_ _ hx_9) rfl rfl (r_end ?_))
  refine RW.au fokW 5 [] ⟨[(1, .d (.sl 1 (List.map e3 weights))), (2, .ptr 0 0), (4, .ptr 1 0), (5, .ptr 2 0), (6, .d (I i)), (7, .ptr 4 0), (8, .d (I r0))], [(4, .var 65 [.d (I p.Weight), .d (I p.Lean_), .d (.bool p.Tipped)]), (2, .var 25 [.d (I b.Kind), .d (I b.Front), .d (I b.Back), .d (I b.Radius), .d (.sl 4 (List.map e70 b.Parts)), .d (I b.Along), .d (I b.High), .d (I b.Lean_), .d (I b.Limit), .own 3 (List.map e65 l).length]), (3, .row 65 3 (List.map e65 l)), (1, .var 25 [.d (I 0), .d (I 0), .d (I 0), .d (I 0), .d (.nilSl), .d (I 0), .d (I 0), .d (I 0), .d (I 0), .d (.nilSl)]), (0, .var 25 (cv25 b))], 5, Fr.emp, [], 0⟩ (by kernel_rfl) ?_
  refine RW.nil ?_
  refine hQ_8 _ ?_
  refine AW.sa fokW [] ⟨[(1, .d (.sl 1 (List.map e3 weights))), (2, .ptr 0 0), (4, .ptr 1 0), (5, .ptr 2 0), (6, .d (I i)), (7, .ptr 4 0)], [(4, .var 65 [.d (I p.Weight), .d (I p.Lean_), .d (.bool (decide (r0 < 0)))]), (2, .var 25 [.d (I b.Kind), .d (I b.Front), .d (I b.Back), .d (I b.Radius), .d (.sl 4 (List.map e70 b.Parts)), .d (I b.Along), .d (I b.High), .d (I b.Lean_), .d (I b.Limit), .own 3 (List.map e65 l).length]), (3, .row 65 3 (List.map e65 l)), (1, .var 25 [.d (I 0), .d (I 0), .d (I 0), .d (I 0), .d (.nilSl), .d (I 0), .d (I 0), .d (I 0), .d (I 0), .d (.nilSl)]), (0, .var 25 (cv25 b))], 5, Fr.emp, [], 0⟩ (by kernel_rfl) ?_
  refine AW.rw ?_
  refine RW.au fokW 4 [] ⟨[(1, .d (.sl 1 (List.map e3 weights))), (2, .ptr 0 0), (4, .ptr 1 0), (5, .ptr 2 0), (6, .d (I i)), (38, .own 3 (List.map e65 l).length), (40, .own 5 (List.map e65 [(StandTrial.mk p.Weight p.Lean_ (decide (r0 < 0)))]).length)], [(5, .row 65 3 (List.map e65 [(StandTrial.mk p.Weight p.Lean_ (decide (r0 < 0)))])), (2, .var 25 [.d (I b.Kind), .d (I b.Front), .d (I b.Back), .d (I b.Radius), .d (.sl 4 (List.map e70 b.Parts)), .d (I b.Along), .d (I b.High), .d (I b.Lean_), .d (I b.Limit), .own 3 (List.map e65 l).length]), (3, .row 65 3 (List.map e65 l)), (1, .var 25 [.d (I 0), .d (I 0), .d (I 0), .d (I 0), .d (.nilSl), .d (I 0), .d (I 0), .d (I 0), .d (I 0), .d (.nilSl)]), (0, .var 25 (cv25 b))], 6, Fr.emp, [], 0⟩ (by kernel_rfl) ?_
  obtain ⟨l1, hv_11, h⟩ := bsome h
  refine RW.one fokW (r_apO trivial rfl rfl rfl rfl rfl rfl (apz hv_11 e65) (apr hv_11 e65) (r_end ?_))
  refine RW.au fokW 2 [] ⟨[(1, .d (.sl 1 (List.map e3 weights))), (2, .ptr 0 0), (4, .ptr 1 0), (5, .ptr 2 0), (6, .d (I i))], [(2, .var 25 [.d (I b.Kind), .d (I b.Front), .d (I b.Back), .d (I b.Radius), .d (.sl 4 (List.map e70 b.Parts)), .d (I b.Along), .d (I b.High), .d (I b.Lean_), .d (I b.Limit), .own 3 (List.map e65 l1).length]), (3, .row 65 3 (List.map e65 l1)), (1, .var 25 [.d (I 0), .d (I 0), .d (I 0), .d (I 0), .d (.nilSl), .d (I 0), .d (I 0), .d (I 0), .d (I 0), .d (.nilSl)]), (0, .var 25 (cv25 b))], 6, Fr.emp, [], 0⟩ (by kernel_rfl) ?_
  refine RW.nil ?_
  refine hK_6 _ ?_
  refine AW.ra fokW [] ⟨[(1, .d (.sl 1 (List.map e3 weights))), (2, .ptr 0 0), (4, .ptr 1 0), (5, .ptr 2 0), (6, .d (I (wr (i + 1))))], [(2, .var 25 [.d (I b.Kind), .d (I b.Front), .d (I b.Back), .d (I b.Radius), .d (.sl 4 (List.map e70 b.Parts)), .d (I b.Along), .d (I b.High), .d (I b.Lean_), .d (I b.Limit), .own 3 (List.map e65 l1).length]), (3, .row 65 3 (List.map e65 l1)), (1, .var 25 [.d (I 0), .d (I 0), .d (I 0), .d (I 0), .d (.nilSl), .d (I 0), .d (I 0), .d (I 0), .d (I 0), .d (.nilSl)]), (0, .var 25 (cv25 b))], 6, Fr.emp, [], 0⟩ (by kernel_rfl) ?_
  obtain rfl := Option.some.inj h
  have ew : wr (i + 1) = i + 1 := inext (N := (b.Trials.length : Int)) (by omega) (by omega) (by omega)
  rw [ew]
  exact hK_2 _ (Can.kp (by kernel_rfl))
 ·subst hout
  refine AW.seqK (fun K_12 hK_12 => ?_)
  refine AW.srwK (fun Q_13 hQ_13 => ?_)
  refine RW.au fokW 3 [] ⟨[(1, .d (.sl 1 (List.map e3 weights))), (2, .ptr 0 0), (4, .ptr 1 0), (5, .ptr 2 0), (6, .d (I i)), (12, .d (I i)), (14, .d (.sl 3 (List.map e65 b.Trials)))], [(2, .var 25 [.d (I b.Kind), .d (I b.Front), .d (I b.Back), .d (I b.Radius), .d (.sl 4 (List.map e70 b.Parts)), .d (I b.Along), .d (I b.High), .d (I b.Lean_), .d (I b.Limit), .own 3 (List.map e65 l).length]), (3, .row 65 3 (List.map e65 l)), (1, .var 25 [.d (I 0), .d (I 0), .d (I 0), .d (I 0), .d (.nilSl), .d (I 0), .d (I 0), .d (I 0), .d (I 0), .d (.nilSl)]), (0, .var 25 (cv25 b))], 4, Fr.emp, [], 0⟩ (by kernel_rfl) ?_
  refine RW.one fokW (r_lenX trivial rfl lenm (r_end ?_))
  refine RW.au fokW 1 [] ⟨[(1, .d (.sl 1 (List.map e3 weights))), (2, .ptr 0 0), (4, .ptr 1 0), (5, .ptr 2 0), (6, .d (I i)), (16, .d (.bool (decide (i < (b.Trials.length : Int)))))], [(2, .var 25 [.d (I b.Kind), .d (I b.Front), .d (I b.Back), .d (I b.Radius), .d (.sl 4 (List.map e70 b.Parts)), .d (I b.Along), .d (I b.High), .d (I b.Lean_), .d (I b.Limit), .own 3 (List.map e65 l).length]), (3, .row 65 3 (List.map e65 l)), (1, .var 25 [.d (I 0), .d (I 0), .d (I 0), .d (I 0), .d (.nilSl), .d (I 0), .d (I 0), .d (I 0), .d (I 0), .d (.nilSl)]), (0, .var 25 (cv25 b))], 4, Fr.emp, [], 0⟩ (by kernel_rfl) ?_
  refine RW.nil ?_
  refine hQ_13 _ ?_
  refine AW.cond rfl (fun hb_14 => False.elim (by have := of_decide_eq_true hb_14; omega)) (fun hb_14 => ?_)
  refine AW.exit ?_
  refine hK_1 _ ?_
  refine AW.sa fokW [] ⟨[(4, .ptr 1 0)], [(1, .var 25 [.d (I b.Kind), .d (I b.Front), .d (I b.Back), .d (I b.Radius), .d (.sl 4 (List.map e70 b.Parts)), .d (I b.Along), .d (I b.High), .d (I b.Lean_), .d (I b.Limit), .own 3 (List.map e65 l).length]), (3, .row 65 3 (List.map e65 l))], 4, Fr.emp, [], 0⟩ (by kernel_rfl) ?_
  obtain rfl := Option.some.inj h
  exact AW.ret (hR_0 _ (retX (.cons (.agg rfl rfl (Nat.le_of_ble_eq_true rfl)) .nil) (Frz.agg_of ⟨.refl _, .refl _, .refl _, .refl _, .refl _, .refl _, .refl _, .refl _, .refl _, (.own rfl rfl), trivial⟩) rfl (by kernel_rfl) (by kernel_rfl)))
def g44 (s : Span) (n : Int) : Option Bool := some ((decide (s.Low ≤ n)) && (decide (n ≤ s.High)))
theorem k44 (s : Span) (n : Int) (r : Bool) (h : g44 s n = some r) : SCall Tryd.prog Gs 44 [.agg [.d (I s.Low), .d (I s.High)], .d (I n)] [] 0 Fr.emp (.d (.bool r)) [] 0 Fr.emp := by
 unfold g44 at h
 refine SCall.mkK Tryd.func44 c44 rfl rfl (by kernel_rfl) (fun Q_0 hR_0 hN_0 => ?_)
 refine AW.sa fokW [] ⟨[(1, .d (I n)), (2, .ptr 0 0)], [(0, .var 42 [.d (I s.Low), .d (I s.High)])], 1, Fr.emp, [], 0⟩ (by kernel_rfl) ?_
 refine AW.sa fokW [9] ⟨[(4, .d (.bool ((decide (s.Low ≤ n)) && (decide (n ≤ s.High)))))], [], 1, Fr.emp, [], 0⟩ (by kernel_rfl) ?_
 obtain rfl := Option.some.inj h
 exact AW.ret (hR_0 _ (retX (.cons (.tmp rfl) .nil) (.refl _) rfl (by kernel_rfl) (by kernel_rfl)))
end Go.Proofs.Tz
namespace Go.Proofs.Tz
open Go Go.Abs Go.Proofs
def g6_39 (t : StandBook) (r0_2 : (List Int)) (r0_2_1 : Int) (r0_4 : Bool) (r0_4_1 : Span) (r1_5 : Int) : Int → Unit → Option (Ctl (Unit) (Bool)) := fun v2 _ => (g42 t r0_2 (wr (1 + r0_2_1)) v2).bind fun (r0_7, r1_3) => (bif (decide (r0_7 < 0)) then (bif r0_4 then (some true) else (bif (decide (r1_5 = 0)) then ((g44 r0_4_1 v2).bind fun r0_8 => some r0_8) else (some false))) else (some false)).bind fun v3 => bif v3 then (some (.brk false)) else (some (.next ()))
def g6 (t : StandBook) (o : (List Int)) (A : (Nat → Int)) : Option Bool := (g38 t).bind fun r0_14 => bif (!r0_14) then ((g24).bind fun t2 => some t2) else ((g39 t o).bind fun r0_2 => (g40 t r0_2).bind fun r0_1 => (g41 (A 0) t.Limit).bind fun r0_2_1 => (g41 (A 1) (wr ((wr (2 * t.Lean_)) + 1))).bind fun r0_2_2 => (g42 t r0_2 (wr (1 + r0_2_1)) (wr (r0_2_2 - t.Lean_))).bind fun (r0, r1) => (g16 r0_1).bind fun (r0_1_1, r1_1) => (g35 r0_1).bind fun (r0_2_3, r1_2) => (g20 r0_1 (wr (1 + r0_2_1)) (wr (r0_2_2 - t.Lean_))).bind fun (r0_6, r1_6) => (g22 r0_1 (wr (1 + r0_2_1)) (wr (r0_2_2 - t.Lean_))).bind fun (r0_3, r1_4) => (g25 r0_1 (wr (1 + r0_2_1))).bind fun (r0_4, r1_4_1) => (g29 r0_1 (wr (1 + r0_2_1))).bind fun (r0_4_1, r1_5) => (bif (((((((decide (r1_1 ≠ 0)) || (decide (r1_2 ≠ 0))) || (decide (r1_6 ≠ 0))) || (decide (r1_4 ≠ 0))) || (decide (r1_4_1 ≠ 0))) || ((decide (r1_5 ≠ 0)) && (decide (r1_5 ≠ 4)))) || (!r0_1_1)) then (some true) else (some (decide ((r0_2_3.length : Int) ≠ 0)))).bind fun v => (bif v then (some true) else ((g43 r0_6 0 2).bind fun r0_5 => some (!r0_5))).bind fun v1 => bif (v1 || (decide (r0_3.Bottom < 1))) then (some false) else (bif ((((decide (r0_6 = 0)) && (decide (r0 < 0))) || ((decide (r0_6 = 2)) && (decide (0 ≤ r0)))) || (decide ((wr (r0 * r0_3.Bottom)) < (wr (r0_3.Top * r1))))) then (some false) else ((must (decide ((t.Lean_ + 1) ≤ 9223372036854775807))).bind fun _ => bindC (forC (g6_39 t r0_2 r0_2_1 r0_4 r0_4_1 r1_5) ((((t.Lean_ + 1) : Int) - (wr (-t.Lean_))).toNat) (wr (-t.Lean_)) ()) fun _ => (g24).bind fun t2_1 => some t2_1)))
theorem k6 (t : StandBook) (o : (List Int)) (A : (Nat → Int)) (r : Bool) (h : g6 t o A = some r) : SCall Tryd.prog Gs 6 [.agg (cv25 t), .d (.sl 1 (List.map e3 o)), .agg [.d (I (A 0)), .d (I (A 1))]] [] 0 Fr.emp (.d (.bool r)) [] 0 Fr.emp := by
 unfold g6 at h
 refine SCall.mkK Tryd.func6 c6 rfl rfl (by kernel_rfl) (fun Q_0 hR_0 hN_0 => ?_)
 refine AW.sa fokW [] ⟨[(1, .d (.sl 1 (List.map e3 o))), (3, .ptr 0 0), (5, .ptr 1 0)], [(1, .var 26 [.d (I (A 0)), .d (I (A 1))]), (0, .var 25 (cv25 t))], 2, Fr.emp, [], 0⟩ (by kernel_rfl) ?_
 refine AW.seqK (fun K_1 hK_1 => ?_)
 refine AW.srwK (fun Q_2 hQ_2 => ?_)
 refine RW.au fokW 1 [] ⟨[(1, .d (.sl 1 (List.map e3 o))), (3, .ptr 0 0), (5, .ptr 1 0), (28, .agg (cv25 t))], [(1, .var 26 [.d (I (A 0)), .d (I (A 1))]), (0, .var 25 (cv25 t))], 2, Fr.emp, [], 0⟩ (by kernel_rfl) ?_
 obtain ⟨r0_14, hx_3, h⟩ := bsome h
 refine RW.one fokW (r_call trivial rfl (k38 t _ hx_3) rfl rfl (r_end ?_))
 refine RW.au fokW 1 [] ⟨[(1, .d (.sl 1 (List.map e3 o))), (3, .ptr 0 0), (5, .ptr 1 0), (30, .d (.bool (!r0_14)))], [(1, .var 26 [.d (I (A 0)), .d (I (A 1))]), (0, .var 25 (cv25 t))], 2, Fr.emp, [], 0⟩ (by kernel_rfl) ?_
 refine RW.nil ?_
 refine hQ_2 _ ?_
 refine AW.cond rfl (fun hb_4 => ?_) (fun hb_4 => ?_)
 ·have h := ifT hb_4 h
  refine AW.srwK (fun Q_5 hQ_5 => ?_)
  obtain ⟨t2, hx_6, h⟩ := bsome h
  refine RW.one fokW (r_call trivial rfl (k24 _ hx_6) rfl rfl (r_end ?_))
  refine RW.au fokW 1 [] ⟨[(6, .d (.bool t2))], [], 2, Fr.emp, [], 0⟩ (by kernel_rfl) ?_
  refine RW.nil ?_
  refine hQ_5 _ ?_
  obtain rfl := Option.some.inj h
  exact AW.ret (hR_0 _ (retX (.cons (.tmp rfl) .nil) (.refl _) rfl (by kernel_rfl) (by kernel_rfl)))
 ·have h := ifF hb_4 h
  refine AW.skip ?_
  refine hK_1 _ ?_
  refine AW.srwK (fun Q_7 hQ_7 => ?_)
  refine RW.au fokW 2 [] ⟨[(3, .ptr 0 0), (5, .ptr 1 0), (32, .agg (cv25 t)), (33, .d (.sl 1 (List.map e3 o)))], [(1, .var 26 [.d (I (A 0)), .d (I (A 1))]), (0, .var 25 (cv25 t))], 2, Fr.emp, [], 0⟩ (by kernel_rfl) ?_
  obtain ⟨r0_2, hx_8, h⟩ := bsome h
  refine RW.one fokW (r_call trivial rfl (k39 t o _ hx_8) rfl rfl (r_end ?_))
  refine RW.au fokW 1 [] ⟨[(3, .ptr 0 0), (5, .ptr 1 0), (7, .d (.sl 1 (List.map e3 r0_2)))], [(1, .var 26 [.d (I (A 0)), .d (I (A 1))]), (0, .var 25 (cv25 t))], 2, Fr.emp, [], 0⟩ (by kernel_rfl) ?_
  refine RW.nil ?_
  refine hQ_7 _ ?_
  refine AW.srwK (fun Q_9 hQ_9 => ?_)
  refine RW.au fokW 2 [] ⟨[(3, .ptr 0 0), (5, .ptr 1 0), (7, .d (.sl 1 (List.map e3 r0_2))), (35, .agg (cv25 t)), (36, .d (.sl 1 (List.map e3 r0_2)))], [(1, .var 26 [.d (I (A 0)), .d (I (A 1))]), (0, .var 25 (cv25 t))], 2, Fr.emp, [], 0⟩ (by kernel_rfl) ?_
  obtain ⟨r0_1, hx_10, h⟩ := bsome h
  refine RW.one fokW (r_call trivial rfl (k40 t r0_2 _ hx_10) rfl rfl (r_end ?_))
  refine RW.au fokW 2 [] ⟨[(3, .ptr 0 0), (5, .ptr 1 0), (7, .d (.sl 1 (List.map e3 r0_2))), (8, .ptr 2 0)], [(2, .var 25 (cv25 r0_1)), (1, .var 26 [.d (I (A 0)), .d (I (A 1))]), (0, .var 25 (cv25 t))], 3, Fr.emp, [], 0⟩ (by kernel_rfl) ?_
  refine RW.nil ?_
  refine hQ_9 _ ?_
  refine AW.sdrwK fokW (fun Q_11 hQ_11 => ?_)
  refine RunC.auX 4 ⟨[(3, .ptr 0 0), (5, .ptr 1 0), (7, .d (.sl 1 (List.map e3 r0_2))), (8, .ptr 2 0), (39, .d (I (A 0))), (41, .d (I t.Limit))], [(2, .var 25 (cv25 r0_1)), (1, .var 26 [.d (I (A 0)), .d (I (A 1))]), (0, .var 25 (cv25 t))], 3, Fr.emp, [], 0⟩ (by kernel_rfl) ?_
  obtain ⟨r0_2_1, hx_12, h⟩ := bsome h
  refine r_call trivial rfl (k41 (A 0) t.Limit _ hx_12) rfl rfl ?_
  refine RunC.auX 7 ⟨[(3, .ptr 0 0), (7, .d (.sl 1 (List.map e3 r0_2))), (8, .ptr 2 0), (43, .d (I (wr (1 + r0_2_1)))), (45, .d (I (A 1))), (49, .d (I (wr ((wr (2 * t.Lean_)) + 1))))], [(2, .var 25 (cv25 r0_1)), (1, .var 26 [.d (I (A 0)), .d (I (A 1))]), (0, .var 25 (cv25 t))], 3, Fr.emp, [], 0⟩ (by kernel_rfl) ?_
  obtain ⟨r0_2_2, hx_13, h⟩ := bsome h
  refine r_call trivial rfl (k41 (A 1) (wr ((wr (2 * t.Lean_)) + 1)) _ hx_13) rfl rfl ?_
  refine RunC.auX 5 ⟨[(3, .ptr 0 0), (7, .d (.sl 1 (List.map e3 r0_2))), (8, .ptr 2 0), (9, .d (I (wr (1 + r0_2_1)))), (10, .d (I (wr (r0_2_2 - t.Lean_))))], [(2, .var 25 (cv25 r0_1)), (1, .var 26 [.d (I (A 0)), .d (I (A 1))]), (0, .var 25 (cv25 t))], 3, Fr.emp, [], 0⟩ (by kernel_rfl) ?_
  refine RunC.fin ⟨[(3, .ptr 0 0), (7, .d (.sl 1 (List.map e3 r0_2))), (8, .ptr 2 0), (9, .d (I (wr (1 + r0_2_1)))), (10, .d (I (wr (r0_2_2 - t.Lean_))))], [(2, .var 25 (cv25 r0_1)), (0, .var 25 (cv25 t))], 3, Fr.emp, [], 0⟩ (by kernel_rfl) (by kernel_rfl) ?_
  refine hQ_11 _ ?_
  refine AW.srwK (fun Q_14 hQ_14 => ?_)
  refine RW.au fokW 4 [] ⟨[(3, .ptr 0 0), (7, .d (.sl 1 (List.map e3 r0_2))), (8, .ptr 2 0), (9, .d (I (wr (1 + r0_2_1)))), (10, .d (I (wr (r0_2_2 - t.Lean_)))), (55, .agg (cv25 t)), (56, .d (.sl 1 (List.map e3 r0_2))), (57, .d (I (wr (1 + r0_2_1)))), (58, .d (I (wr (r0_2_2 - t.Lean_))))], [(2, .var 25 (cv25 r0_1)), (0, .var 25 (cv25 t))], 3, Fr.emp, [], 0⟩ (by kernel_rfl) ?_
  obtain ⟨⟨r0, r1⟩, hx_15, h⟩ := bsome h
  refine RW.one fokW (r_call trivial rfl (k42 t r0_2 (wr (1 + r0_2_1)) (wr (r0_2_2 - t.Lean_)) _ hx_15) rfl rfl (r_end ?_))
  refine RW.au fokW 5 [] ⟨[(3, .ptr 0 0), (7, .d (.sl 1 (List.map e3 r0_2))), (8, .ptr 2 0), (9, .d (I (wr (1 + r0_2_1)))), (10, .d (I (wr (r0_2_2 - t.Lean_)))), (11, .d (I r0)), (12, .d (I r1))], [(2, .var 25 (cv25 r0_1)), (0, .var 25 (cv25 t))], 3, Fr.emp, [], 0⟩ (by kernel_rfl) ?_
  refine RW.nil ?_
  refine hQ_14 _ ?_
  refine AW.srwK (fun Q_16 hQ_16 => ?_)
  refine RW.au fokW 1 [] ⟨[(3, .ptr 0 0), (7, .d (.sl 1 (List.map e3 r0_2))), (8, .ptr 2 0), (9, .d (I (wr (1 + r0_2_1)))), (10, .d (I (wr (r0_2_2 - t.Lean_)))), (11, .d (I r0)), (12, .d (I r1)), (63, .agg (cv25 r0_1))], [(2, .var 25 (cv25 r0_1)), (0, .var 25 (cv25 t))], 3, Fr.emp, [], 0⟩ (by kernel_rfl) ?_
  obtain ⟨⟨r0_1_1, r1_1⟩, hx_17, h⟩ := bsome h
  refine RW.one fokW (r_call trivial rfl (k16 r0_1 _ hx_17) rfl rfl (r_end ?_))
  refine RW.au fokW 5 [] ⟨[(3, .ptr 0 0), (7, .d (.sl 1 (List.map e3 r0_2))), (8, .ptr 2 0), (9, .d (I (wr (1 + r0_2_1)))), (10, .d (I (wr (r0_2_2 - t.Lean_)))), (11, .d (I r0)), (12, .d (I r1)), (13, .d (.bool r0_1_1)), (14, .d (I r1_1))], [(2, .var 25 (cv25 r0_1)), (0, .var 25 (cv25 t))], 3, Fr.emp, [], 0⟩ (by kernel_rfl) ?_
  refine RW.nil ?_
  refine hQ_16 _ ?_
  refine AW.srwK (fun Q_18 hQ_18 => ?_)
  refine RW.au fokW 1 [] ⟨[(3, .ptr 0 0), (7, .d (.sl 1 (List.map e3 r0_2))), (8, .ptr 2 0), (9, .d (I (wr (1 + r0_2_1)))), (10, .d (I (wr (r0_2_2 - t.Lean_)))), (11, .d (I r0)), (12, .d (I r1)), (13, .d (.bool r0_1_1)), (14, .d (I r1_1)), (68, .agg (cv25 r0_1))], [(2, .var 25 (cv25 r0_1)), (0, .var 25 (cv25 t))], 3, Fr.emp, [], 0⟩ (by kernel_rfl) ?_
  obtain ⟨⟨r0_2_3, r1_2⟩, hx_19, h⟩ := bsome h
  refine RW.one fokW (r_call trivial rfl (k35 r0_1 _ hx_19) rfl rfl (r_end ?_))
  refine RW.au fokW 5 [] ⟨[(3, .ptr 0 0), (7, .d (.sl 1 (List.map e3 r0_2))), (8, .ptr 2 0), (9, .d (I (wr (1 + r0_2_1)))), (10, .d (I (wr (r0_2_2 - t.Lean_)))), (11, .d (I r0)), (12, .d (I r1)), (13, .d (.bool r0_1_1)), (14, .d (I r1_1)), (15, .d (.sl 1 (List.map e3 r0_2_3))), (16, .d (I r1_2))], [(2, .var 25 (cv25 r0_1)), (0, .var 25 (cv25 t))], 3, Fr.emp, [], 0⟩ (by kernel_rfl) ?_
  refine RW.nil ?_
  refine hQ_18 _ ?_
  refine AW.srwK (fun Q_20 hQ_20 => ?_)
  refine RW.au fokW 3 [] ⟨[(3, .ptr 0 0), (7, .d (.sl 1 (List.map e3 r0_2))), (8, .ptr 2 0), (9, .d (I (wr (1 + r0_2_1)))), (10, .d (I (wr (r0_2_2 - t.Lean_)))), (11, .d (I r0)), (12, .d (I r1)), (13, .d (.bool r0_1_1)), (14, .d (I r1_1)), (15, .d (.sl 1 (List.map e3 r0_2_3))), (16, .d (I r1_2)), (73, .agg (cv25 r0_1)), (74, .d (I (wr (1 + r0_2_1)))), (75, .d (I (wr (r0_2_2 - t.Lean_))))], [(2, .var 25 (cv25 r0_1)), (0, .var 25 (cv25 t))], 3, Fr.emp, [], 0⟩ (by kernel_rfl) ?_
  obtain ⟨⟨r0_6, r1_6⟩, hx_21, h⟩ := bsome h
  refine RW.one fokW (r_call trivial rfl (k20 r0_1 (wr (1 + r0_2_1)) (wr (r0_2_2 - t.Lean_)) _ hx_21) rfl rfl (r_end ?_))
  refine RW.au fokW 5 [] ⟨[(3, .ptr 0 0), (7, .d (.sl 1 (List.map e3 r0_2))), (8, .ptr 2 0), (9, .d (I (wr (1 + r0_2_1)))), (10, .d (I (wr (r0_2_2 - t.Lean_)))), (11, .d (I r0)), (12, .d (I r1)), (13, .d (.bool r0_1_1)), (14, .d (I r1_1)), (15, .d (.sl 1 (List.map e3 r0_2_3))), (16, .d (I r1_2)), (17, .d (I r0_6)), (18, .d (I r1_6))], [(2, .var 25 (cv25 r0_1)), (0, .var 25 (cv25 t))], 3, Fr.emp, [], 0⟩ (by kernel_rfl) ?_
  refine RW.nil ?_
  refine hQ_20 _ ?_
  refine AW.srwK (fun Q_22 hQ_22 => ?_)
  refine RW.au fokW 3 [] ⟨[(3, .ptr 0 0), (7, .d (.sl 1 (List.map e3 r0_2))), (8, .ptr 2 0), (9, .d (I (wr (1 + r0_2_1)))), (11, .d (I r0)), (12, .d (I r1)), (13, .d (.bool r0_1_1)), (14, .d (I r1_1)), (15, .d (.sl 1 (List.map e3 r0_2_3))), (16, .d (I r1_2)), (17, .d (I r0_6)), (18, .d (I r1_6)), (80, .agg (cv25 r0_1)), (81, .d (I (wr (1 + r0_2_1)))), (82, .d (I (wr (r0_2_2 - t.Lean_))))], [(2, .var 25 (cv25 r0_1)), (0, .var 25 (cv25 t))], 3, Fr.emp, [], 0⟩ (by kernel_rfl) ?_
  obtain ⟨⟨r0_3, r1_4⟩, hx_23, h⟩ := bsome h
  refine RW.one fokW (r_call trivial rfl (k22 r0_1 (wr (1 + r0_2_1)) (wr (r0_2_2 - t.Lean_)) _ hx_23) rfl rfl (r_end ?_))
  refine RW.au fokW 6 [] ⟨[(3, .ptr 0 0), (7, .d (.sl 1 (List.map e3 r0_2))), (8, .ptr 2 0), (9, .d (I (wr (1 + r0_2_1)))), (11, .d (I r0)), (12, .d (I r1)), (13, .d (.bool r0_1_1)), (14, .d (I r1_1)), (15, .d (.sl 1 (List.map e3 r0_2_3))), (16, .d (I r1_2)), (17, .d (I r0_6)), (18, .d (I r1_6)), (19, .ptr 3 0), (20, .d (I r1_4))], [(3, .var 34 [.d (I r0_3.Top), .d (I r0_3.Bottom)]), (2, .var 25 (cv25 r0_1)), (0, .var 25 (cv25 t))], 4, Fr.emp, [], 0⟩ (by kernel_rfl) ?_
  refine RW.nil ?_
  refine hQ_22 _ ?_
  refine AW.srwK (fun Q_24 hQ_24 => ?_)
  refine RW.au fokW 2 [] ⟨[(3, .ptr 0 0), (7, .d (.sl 1 (List.map e3 r0_2))), (8, .ptr 2 0), (9, .d (I (wr (1 + r0_2_1)))), (11, .d (I r0)), (12, .d (I r1)), (13, .d (.bool r0_1_1)), (14, .d (I r1_1)), (15, .d (.sl 1 (List.map e3 r0_2_3))), (16, .d (I r1_2)), (17, .d (I r0_6)), (18, .d (I r1_6)), (19, .ptr 3 0), (20, .d (I r1_4)), (87, .agg (cv25 r0_1)), (88, .d (I (wr (1 + r0_2_1))))], [(3, .var 34 [.d (I r0_3.Top), .d (I r0_3.Bottom)]), (2, .var 25 (cv25 r0_1)), (0, .var 25 (cv25 t))], 4, Fr.emp, [], 0⟩ (by kernel_rfl) ?_
  obtain ⟨⟨r0_4, r1_4_1⟩, hx_25, h⟩ := bsome h
  refine RW.one fokW (r_call trivial rfl (k25 r0_1 (wr (1 + r0_2_1)) _ hx_25) rfl rfl (r_end ?_))
  refine RW.au fokW 5 [] ⟨[(3, .ptr 0 0), (7, .d (.sl 1 (List.map e3 r0_2))), (8, .ptr 2 0), (9, .d (I (wr (1 + r0_2_1)))), (11, .d (I r0)), (12, .d (I r1)), (13, .d (.bool r0_1_1)), (14, .d (I r1_1)), (15, .d (.sl 1 (List.map e3 r0_2_3))), (16, .d (I r1_2)), (17, .d (I r0_6)), (18, .d (I r1_6)), (19, .ptr 3 0), (20, .d (I r1_4)), (21, .d (.bool r0_4)), (22, .d (I r1_4_1))], [(3, .var 34 [.d (I r0_3.Top), .d (I r0_3.Bottom)]), (2, .var 25 (cv25 r0_1)), (0, .var 25 (cv25 t))], 4, Fr.emp, [], 0⟩ (by kernel_rfl) ?_
  refine RW.nil ?_
  refine hQ_24 _ ?_
  refine AW.srwK (fun Q_26 hQ_26 => ?_)
  refine RW.au fokW 2 [] ⟨[(3, .ptr 0 0), (7, .d (.sl 1 (List.map e3 r0_2))), (9, .d (I (wr (1 + r0_2_1)))), (11, .d (I r0)), (12, .d (I r1)), (13, .d (.bool r0_1_1)), (14, .d (I r1_1)), (15, .d (.sl 1 (List.map e3 r0_2_3))), (16, .d (I r1_2)), (17, .d (I r0_6)), (18, .d (I r1_6)), (19, .ptr 3 0), (20, .d (I r1_4)), (21, .d (.bool r0_4)), (22, .d (I r1_4_1)), (93, .agg (cv25 r0_1)), (94, .d (I (wr (1 + r0_2_1))))], [(3, .var 34 [.d (I r0_3.Top), .d (I r0_3.Bottom)]), (0, .var 25 (cv25 t))], 4, Fr.emp, [], 0⟩ (by kernel_rfl) ?_
  obtain ⟨⟨r0_4_1, r1_5⟩, hx_27, h⟩ := bsome h
  refine RW.one fokW (r_call trivial rfl (k29 r0_1 (wr (1 + r0_2_1)) _ hx_27) rfl rfl (r_end ?_))
  refine RW.au fokW 6 [] ⟨[(3, .ptr 0 0), (7, .d (.sl 1 (List.map e3 r0_2))), (9, .d (I (wr (1 + r0_2_1)))), (11, .d (I r0)), (12, .d (I r1)), (13, .d (.bool r0_1_1)), (14, .d (I r1_1)), (15, .d (.sl 1 (List.map e3 r0_2_3))), (16, .d (I r1_2)), (17, .d (I r0_6)), (18, .d (I r1_6)), (19, .ptr 3 0), (20, .d (I r1_4)), (21, .d (.bool r0_4)), (22, .d (I r1_4_1)), (23, .ptr 4 0), (24, .d (I r1_5))], [(4, .var 42 [.d (I r0_4_1.Low), .d (I r0_4_1.High)]), (3, .var 34 [.d (I r0_3.Top), .d (I r0_3.Bottom)]), (0, .var 25 (cv25 t))], 5, Fr.emp, [], 0⟩ (by kernel_rfl) ?_
  refine RW.nil ?_
  refine hQ_26 _ ?_
  refine AW.seqK (fun K_28 hK_28 => ?_)
  refine AW.srwK (fun Q_29 hQ_29 => ?_)
  refine RW.au fokW 31 [100, 104, 108, 112, 119, 116, 124] ⟨[(3, .ptr 0 0), (7, .d (.sl 1 (List.map e3 r0_2))), (9, .d (I (wr (1 + r0_2_1)))), (11, .d (I r0)), (12, .d (I r1)), (15, .d (.sl 1 (List.map e3 r0_2_3))), (17, .d (I r0_6)), (19, .ptr 3 0), (21, .d (.bool r0_4)), (23, .ptr 4 0), (24, .d (I r1_5)), (128, .d (.bool (((((((decide (r1_1 ≠ 0)) || (decide (r1_2 ≠ 0))) || (decide (r1_6 ≠ 0))) || (decide (r1_4 ≠ 0))) || (decide (r1_4_1 ≠ 0))) || ((decide (r1_5 ≠ 0)) && (decide (r1_5 ≠ 4)))) || (!r0_1_1))))], [(4, .var 42 [.d (I r0_4_1.Low), .d (I r0_4_1.High)]), (3, .var 34 [.d (I r0_3.Top), .d (I r0_3.Bottom)]), (0, .var 25 (cv25 t))], 5, Fr.emp, [], 0⟩ (by kernel_rfl) ?_
  obtain ⟨v, hx_30, h⟩ := bsome h
  refine RW.cut fokW 4 (⟨[(3, .ptr 0 0), (7, .d (.sl 1 (List.map e3 r0_2))), (9, .d (I (wr (1 + r0_2_1)))), (11, .d (I r0)), (12, .d (I r1)), (17, .d (I r0_6)), (19, .ptr 3 0), (21, .d (.bool r0_4)), (23, .ptr 4 0), (24, .d (I r1_5)), (132, .d (.bool v))], [(4, .var 42 [.d (I r0_4_1.Low), .d (I r0_4_1.High)]), (3, .var 34 [.d (I r0_3.Top), .d (I r0_3.Bottom)]), (0, .var 25 (cv25 t))], 5, Fr.emp, [], 0⟩) ?_ ?_
  ·refine r_split 128 rfl (fun hb_31 => ?_) (fun hb_31 => ?_)
   ·have h := ifT hb_31 hx_30
    refine RunC.auX 4 ⟨[(3, .ptr 0 0), (7, .d (.sl 1 (List.map e3 r0_2))), (9, .d (I (wr (1 + r0_2_1)))), (11, .d (I r0)), (12, .d (I r1)), (17, .d (I r0_6)), (19, .ptr 3 0), (21, .d (.bool r0_4)), (23, .ptr 4 0), (24, .d (I r1_5)), (132, .d (.bool true))], [(4, .var 42 [.d (I r0_4_1.Low), .d (I r0_4_1.High)]), (3, .var 34 [.d (I r0_3.Top), .d (I r0_3.Bottom)]), (0, .var 25 (cv25 t))], 5, Fr.emp, [], 0⟩ (by kernel_rfl) ?_
    obtain rfl := Option.some.inj h
    refine RunC.finJ (Can.kp (by kernel_rfl))
   ·have h := ifF hb_31 hx_30
    refine RunC.auX 1 ⟨[(3, .ptr 0 0), (7, .d (.sl 1 (List.map e3 r0_2))), (9, .d (I (wr (1 + r0_2_1)))), (11, .d (I r0)), (12, .d (I r1)), (17, .d (I r0_6)), (19, .ptr 3 0), (21, .d (.bool r0_4)), (23, .ptr 4 0), (24, .d (I r1_5)), (128, .d (.bool false)), (129, .d (.sl 1 (List.map e3 r0_2_3)))], [(4, .var 42 [.d (I r0_4_1.Low), .d (I r0_4_1.High)]), (3, .var 34 [.d (I r0_3.Top), .d (I r0_3.Bottom)]), (0, .var 25 (cv25 t))], 5, Fr.emp, [], 0⟩ (by kernel_rfl) ?_
    refine r_lenX rfl rfl lenm ?_
    refine RunC.auX 2 ⟨[(3, .ptr 0 0), (7, .d (.sl 1 (List.map e3 r0_2))), (9, .d (I (wr (1 + r0_2_1)))), (11, .d (I r0)), (12, .d (I r1)), (17, .d (I r0_6)), (19, .ptr 3 0), (21, .d (.bool r0_4)), (23, .ptr 4 0), (24, .d (I r1_5)), (132, .d (.bool (decide ((r0_2_3.length : Int) ≠ 0))))], [(4, .var 42 [.d (I r0_4_1.Low), .d (I r0_4_1.High)]), (3, .var 34 [.d (I r0_3.Top), .d (I r0_3.Bottom)]), (0, .var 25 (cv25 t))], 5, Fr.emp, [], 0⟩ (by kernel_rfl) ?_
    obtain rfl := Option.some.inj h
    refine RunC.finJ (Can.kp (by kernel_rfl))
  ·refine RW.au fokW 1 [] ⟨[(3, .ptr 0 0), (7, .d (.sl 1 (List.map e3 r0_2))), (9, .d (I (wr (1 + r0_2_1)))), (11, .d (I r0)), (12, .d (I r1)), (17, .d (I r0_6)), (19, .ptr 3 0), (21, .d (.bool r0_4)), (23, .ptr 4 0), (24, .d (I r1_5)), (133, .d (.bool v))], [(4, .var 42 [.d (I r0_4_1.Low), .d (I r0_4_1.High)]), (3, .var 34 [.d (I r0_3.Top), .d (I r0_3.Bottom)]), (0, .var 25 (cv25 t))], 5, Fr.emp, [], 0⟩ (by kernel_rfl) ?_
   obtain ⟨v1, hx_32, h⟩ := bsome h
   refine RW.cut fokW 4 (⟨[(3, .ptr 0 0), (7, .d (.sl 1 (List.map e3 r0_2))), (9, .d (I (wr (1 + r0_2_1)))), (11, .d (I r0)), (12, .d (I r1)), (17, .d (I r0_6)), (19, .ptr 3 0), (21, .d (.bool r0_4)), (23, .ptr 4 0), (24, .d (I r1_5)), (137, .d (.bool v1))], [(4, .var 42 [.d (I r0_4_1.Low), .d (I r0_4_1.High)]), (3, .var 34 [.d (I r0_3.Top), .d (I r0_3.Bottom)]), (0, .var 25 (cv25 t))], 5, Fr.emp, [], 0⟩) ?_ ?_
   ·refine r_split 133 rfl (fun hb_34 => ?_) (fun hb_34 => ?_)
    ·have h := ifT hb_34 hx_32
     refine RunC.auX 4 ⟨[(3, .ptr 0 0), (7, .d (.sl 1 (List.map e3 r0_2))), (9, .d (I (wr (1 + r0_2_1)))), (11, .d (I r0)), (12, .d (I r1)), (17, .d (I r0_6)), (19, .ptr 3 0), (21, .d (.bool r0_4)), (23, .ptr 4 0), (24, .d (I r1_5)), (137, .d (.bool true))], [(4, .var 42 [.d (I r0_4_1.Low), .d (I r0_4_1.High)]), (3, .var 34 [.d (I r0_3.Top), .d (I r0_3.Bottom)]), (0, .var 25 (cv25 t))], 5, Fr.emp, [], 0⟩ (by kernel_rfl) ?_
     obtain rfl := Option.some.inj h
     refine RunC.finJ (Can.kp (by kernel_rfl))
    ·have h := ifF hb_34 hx_32
     refine RunC.auX 1 ⟨[(3, .ptr 0 0), (7, .d (.sl 1 (List.map e3 r0_2))), (9, .d (I (wr (1 + r0_2_1)))), (11, .d (I r0)), (12, .d (I r1)), (17, .d (I r0_6)), (19, .ptr 3 0), (21, .d (.bool r0_4)), (23, .ptr 4 0), (24, .d (I r1_5)), (133, .d (.bool false)), (134, .d (I r0_6))], [(4, .var 42 [.d (I r0_4_1.Low), .d (I r0_4_1.High)]), (3, .var 34 [.d (I r0_3.Top), .d (I r0_3.Bottom)]), (0, .var 25 (cv25 t))], 5, Fr.emp, [], 0⟩ (by kernel_rfl) ?_
     obtain ⟨r0_5, hx_33, h⟩ := bsome h
     refine r_call rfl rfl (k43 r0_6 0 2 _ hx_33) rfl rfl ?_
     refine RunC.auX 2 ⟨[(3, .ptr 0 0), (7, .d (.sl 1 (List.map e3 r0_2))), (9, .d (I (wr (1 + r0_2_1)))), (11, .d (I r0)), (12, .d (I r1)), (17, .d (I r0_6)), (19, .ptr 3 0), (21, .d (.bool r0_4)), (23, .ptr 4 0), (24, .d (I r1_5)), (137, .d (.bool (!r0_5)))], [(4, .var 42 [.d (I r0_4_1.Low), .d (I r0_4_1.High)]), (3, .var 34 [.d (I r0_3.Top), .d (I r0_3.Bottom)]), (0, .var 25 (cv25 t))], 5, Fr.emp, [], 0⟩ (by kernel_rfl) ?_
     obtain rfl := Option.some.inj h
     refine RunC.finJ (Can.kp (by kernel_rfl))
   ·refine RW.au fokW 5 [138] ⟨[(3, .ptr 0 0), (7, .d (.sl 1 (List.map e3 r0_2))), (9, .d (I (wr (1 + r0_2_1)))), (11, .d (I r0)), (12, .d (I r1)), (17, .d (I r0_6)), (19, .ptr 3 0), (21, .d (.bool r0_4)), (23, .ptr 4 0), (24, .d (I r1_5)), (142, .d (.bool (v1 || (decide (r0_3.Bottom < 1)))))], [(4, .var 42 [.d (I r0_4_1.Low), .d (I r0_4_1.High)]), (3, .var 34 [.d (I r0_3.Top), .d (I r0_3.Bottom)]), (0, .var 25 (cv25 t))], 5, Fr.emp, [], 0⟩ (by kernel_rfl) ?_
    refine RW.nil ?_
    refine hQ_29 _ ?_
    refine AW.cond rfl (fun hb_35 => ?_) (fun hb_35 => ?_)
    ·have h := ifT hb_35 h
     refine AW.sa fokW [] ⟨[(6, .d (.bool false))], [], 5, Fr.emp, [], 0⟩ (by kernel_rfl) ?_
     obtain rfl := Option.some.inj h
     exact AW.ret (hR_0 _ (retX (.cons (.tmp rfl) .nil) (.refl _) rfl (by kernel_rfl) (by kernel_rfl)))
    ·have h := ifF hb_35 h
     refine AW.skip ?_
     refine hK_28 _ ?_
     refine AW.seqK (fun K_36 hK_36 => ?_)
     refine AW.sa fokW [145, 152, 149, 157] ⟨[(3, .ptr 0 0), (7, .d (.sl 1 (List.map e3 r0_2))), (9, .d (I (wr (1 + r0_2_1)))), (21, .d (.bool r0_4)), (23, .ptr 4 0), (24, .d (I r1_5)), (167, .d (.bool ((((decide (r0_6 = 0)) && (decide (r0 < 0))) || ((decide (r0_6 = 2)) && (decide (0 ≤ r0)))) || (decide ((wr (r0 * r0_3.Bottom)) < (wr (r0_3.Top * r1)))))))], [(4, .var 42 [.d (I r0_4_1.Low), .d (I r0_4_1.High)]), (0, .var 25 (cv25 t))], 5, Fr.emp, [], 0⟩ (by kernel_rfl) ?_
     refine AW.cond rfl (fun hb_37 => ?_) (fun hb_37 => ?_)
     ·have h := ifT hb_37 h
      refine AW.sa fokW [] ⟨[(6, .d (.bool false))], [], 5, Fr.emp, [], 0⟩ (by kernel_rfl) ?_
      obtain rfl := Option.some.inj h
      exact AW.ret (hR_0 _ (retX (.cons (.tmp rfl) .nil) (.refl _) rfl (by kernel_rfl) (by kernel_rfl)))
     ·have h := ifF hb_37 h
      refine AW.skip ?_
      refine hK_36 _ ?_
      refine AW.seqK (fun K_38 hK_38 => ?_)
      refine AW.sa fokW [] ⟨[(3, .ptr 0 0), (7, .d (.sl 1 (List.map e3 r0_2))), (9, .d (I (wr (1 + r0_2_1)))), (21, .d (.bool r0_4)), (23, .ptr 4 0), (24, .d (I r1_5)), (25, .d (I (wr (-t.Lean_))))], [(4, .var 42 [.d (I r0_4_1.Low), .d (I r0_4_1.High)]), (0, .var 25 (cv25 t))], 5, Fr.emp, [], 0⟩ (by kernel_rfl) ?_
      refine AW.block ?_
      obtain ⟨_, hN_39, h⟩ := bsome h
      have hN_39 := of_decide_eq_true (must_ok hN_39)
      have h0_39 : -9223372036854775808 ≤ (wr (-t.Lean_)) := (wr_range _).1
      obtain ⟨out_39, hx_39, hk_39⟩ := bsomeC h
      refine AW.lpCK (fun (v2 : Int) (_ : Unit) => ⟨[(3, .ptr 0 0), (7, .d (.sl 1 (List.map e3 r0_2))), (9, .d (I (wr (1 + r0_2_1)))), (21, .d (.bool r0_4)), (23, .ptr 4 0), (24, .d (I r1_5)), (25, .d (I v2))], [(4, .var 42 [.d (I r0_4_1.Low), .d (I r0_4_1.High)]), (0, .var 25 (cv25 t))], 5, Fr.emp, [], 0⟩) (g6_39 t r0_2 r0_2_1 r0_4 r0_4_1 r1_5) ((t.Lean_ + 1)) hx_39 (Can.kp (by kernel_rfl)) (fun v2 s_39 hi_39 hl_39 c_39 h hb_39 K_39 hK_39 => ?_) (fun v2 s_39 hi_39 hl_39 hout => ?_)
      ·unfold g6_39 at h
       refine AW.seqK (fun K_40 hK_40 => ?_)
       refine AW.sa fokW [] ⟨[(3, .ptr 0 0), (7, .d (.sl 1 (List.map e3 r0_2))), (9, .d (I (wr (1 + r0_2_1)))), (21, .d (.bool r0_4)), (23, .ptr 4 0), (24, .d (I r1_5)), (25, .d (I v2)), (174, .d (.bool (decide (v2 ≤ t.Lean_))))], [(4, .var 42 [.d (I r0_4_1.Low), .d (I r0_4_1.High)]), (0, .var 25 (cv25 t))], 5, Fr.emp, [], 0⟩ (by kernel_rfl) ?_
       refine AW.cond rfl (fun hb_41 => ?_) (fun hb_41 => False.elim (by have := of_decide_eq_false hb_41; omega))
       refine AW.skip ?_
       refine hK_40 _ ?_
       refine AW.seqK (fun K_42 hK_42 => ?_)
       refine AW.block ?_
       refine AW.srwK (fun Q_43 hQ_43 => ?_)
       refine RW.au fokW 4 [] ⟨[(3, .ptr 0 0), (7, .d (.sl 1 (List.map e3 r0_2))), (9, .d (I (wr (1 + r0_2_1)))), (21, .d (.bool r0_4)), (23, .ptr 4 0), (24, .d (I r1_5)), (25, .d (I v2)), (178, .agg (cv25 t)), (179, .d (.sl 1 (List.map e3 r0_2))), (180, .d (I (wr (1 + r0_2_1)))), (181, .d (I v2))], [(4, .var 42 [.d (I r0_4_1.Low), .d (I r0_4_1.High)]), (0, .var 25 (cv25 t))], 5, Fr.emp, [], 0⟩ (by kernel_rfl) ?_
       obtain ⟨⟨r0_7, r1_3⟩, hx_44, h⟩ := bsome h
       refine RW.one fokW (r_call trivial rfl (k42 t r0_2 (wr (1 + r0_2_1)) v2 _ hx_44) rfl rfl (r_end ?_))
       refine RW.au fokW 5 [] ⟨[(3, .ptr 0 0), (7, .d (.sl 1 (List.map e3 r0_2))), (9, .d (I (wr (1 + r0_2_1)))), (21, .d (.bool r0_4)), (23, .ptr 4 0), (24, .d (I r1_5)), (25, .d (I v2)), (26, .d (I r0_7))], [(4, .var 42 [.d (I r0_4_1.Low), .d (I r0_4_1.High)]), (0, .var 25 (cv25 t))], 5, Fr.emp, [], 0⟩ (by kernel_rfl) ?_
       refine RW.nil ?_
       refine hQ_43 _ ?_
       refine AW.srwK (fun Q_45 hQ_45 => ?_)
       refine RW.au fokW 3 [] ⟨[(3, .ptr 0 0), (7, .d (.sl 1 (List.map e3 r0_2))), (9, .d (I (wr (1 + r0_2_1)))), (21, .d (.bool r0_4)), (23, .ptr 4 0), (24, .d (I r1_5)), (25, .d (I v2)), (187, .d (.bool (decide (r0_7 < 0))))], [(4, .var 42 [.d (I r0_4_1.Low), .d (I r0_4_1.High)]), (0, .var 25 (cv25 t))], 5, Fr.emp, [], 0⟩ (by kernel_rfl) ?_
       obtain ⟨v3, hx_46, h⟩ := bsome h
       refine RW.cut fokW 11 (⟨[(3, .ptr 0 0), (7, .d (.sl 1 (List.map e3 r0_2))), (9, .d (I (wr (1 + r0_2_1)))), (21, .d (.bool r0_4)), (23, .ptr 4 0), (24, .d (I r1_5)), (25, .d (I v2)), (198, .d (.bool v3))], [(4, .var 42 [.d (I r0_4_1.Low), .d (I r0_4_1.High)]), (0, .var 25 (cv25 t))], 5, Fr.emp, [], 0⟩) ?_ ?_
       ·refine r_split 187 rfl (fun hb_50 => ?_) (fun hb_50 => ?_)
        ·have h := ifT hb_50 hx_46
         refine RunC.auX 2 ⟨[(3, .ptr 0 0), (7, .d (.sl 1 (List.map e3 r0_2))), (9, .d (I (wr (1 + r0_2_1)))), (21, .d (.bool r0_4)), (23, .ptr 4 0), (24, .d (I r1_5)), (25, .d (I v2)), (187, .d (.bool true)), (188, .d (.bool r0_4)), (189, .d (.bool r0_4))], [(4, .var 42 [.d (I r0_4_1.Low), .d (I r0_4_1.High)]), (0, .var 25 (cv25 t))], 5, Fr.emp, [], 0⟩ (by kernel_rfl) ?_
         refine r_split 189 rfl (fun hb_47 => ?_) (fun hb_47 => ?_)
         ·have h := ifT hb_47 h
          refine RunC.auX 9 ⟨[(3, .ptr 0 0), (7, .d (.sl 1 (List.map e3 r0_2))), (9, .d (I (wr (1 + r0_2_1)))), (21, .d (.bool r0_4)), (23, .ptr 4 0), (24, .d (I r1_5)), (25, .d (I v2)), (188, .d (.bool r0_4)), (189, .d (.bool true)), (190, .undef), (191, .undef), (192, .undef), (193, .undef), (194, .undef), (195, .undef), (196, .undef), (197, .d (.bool true)), (198, .d (.bool true))], [(4, .var 42 [.d (I r0_4_1.Low), .d (I r0_4_1.High)]), (0, .var 25 (cv25 t))], 5, Fr.emp, [], 0⟩ (by kernel_rfl) ?_
          obtain rfl := Option.some.inj h
          refine RunC.finJ (Can.kp (by kernel_rfl))
         ·have h := ifF hb_47 h
          refine RunC.auX 3 ⟨[(3, .ptr 0 0), (7, .d (.sl 1 (List.map e3 r0_2))), (9, .d (I (wr (1 + r0_2_1)))), (21, .d (.bool r0_4)), (23, .ptr 4 0), (24, .d (I r1_5)), (25, .d (I v2)), (187, .d (.bool true)), (188, .d (.bool r0_4)), (189, .d (.bool false)), (190, .d (I r1_5)), (191, .d (.bool (decide (r1_5 = 0)))), (192, .d (.bool (decide (r1_5 = 0))))], [(4, .var 42 [.d (I r0_4_1.Low), .d (I r0_4_1.High)]), (0, .var 25 (cv25 t))], 5, Fr.emp, [], 0⟩ (by kernel_rfl) ?_
          refine r_split 192 rfl (fun hb_48 => ?_) (fun hb_48 => ?_)
          ·have h := ifT hb_48 h
           refine RunC.auX 2 ⟨[(3, .ptr 0 0), (7, .d (.sl 1 (List.map e3 r0_2))), (9, .d (I (wr (1 + r0_2_1)))), (21, .d (.bool r0_4)), (23, .ptr 4 0), (24, .d (I r1_5)), (25, .d (I v2)), (187, .d (.bool true)), (188, .d (.bool r0_4)), (189, .d (.bool false)), (190, .d (I r1_5)), (191, .d (.bool (decide (r1_5 = 0)))), (192, .d (.bool true)), (193, .agg [.d (I r0_4_1.Low), .d (I r0_4_1.High)]), (194, .d (I v2))], [(4, .var 42 [.d (I r0_4_1.Low), .d (I r0_4_1.High)]), (0, .var 25 (cv25 t))], 5, Fr.emp, [], 0⟩ (by kernel_rfl) ?_
           obtain ⟨r0_8, hx_49, h⟩ := bsome h
           refine r_call rfl rfl (k44 r0_4_1 v2 _ hx_49) rfl rfl ?_
           refine RunC.auX 3 ⟨[(3, .ptr 0 0), (7, .d (.sl 1 (List.map e3 r0_2))), (9, .d (I (wr (1 + r0_2_1)))), (21, .d (.bool r0_4)), (23, .ptr 4 0), (24, .d (I r1_5)), (25, .d (I v2)), (188, .d (.bool r0_4)), (189, .d (.bool false)), (190, .d (I r1_5)), (191, .d (.bool (decide (r1_5 = 0)))), (192, .d (.bool true)), (193, .agg [.d (I r0_4_1.Low), .d (I r0_4_1.High)]), (194, .d (I v2)), (195, .d (.bool r0_8)), (196, .d (.bool r0_8)), (197, .d (.bool r0_8)), (198, .d (.bool r0_8))], [(4, .var 42 [.d (I r0_4_1.Low), .d (I r0_4_1.High)]), (0, .var 25 (cv25 t))], 5, Fr.emp, [], 0⟩ (by kernel_rfl) ?_
           obtain rfl := Option.some.inj h
           refine RunC.finJ (Can.kp (by kernel_rfl))
          ·have h := ifF hb_48 h
           refine RunC.auX 6 ⟨[(3, .ptr 0 0), (7, .d (.sl 1 (List.map e3 r0_2))), (9, .d (I (wr (1 + r0_2_1)))), (21, .d (.bool r0_4)), (23, .ptr 4 0), (24, .d (I r1_5)), (25, .d (I v2)), (188, .d (.bool r0_4)), (189, .d (.bool false)), (190, .d (I r1_5)), (191, .d (.bool (decide (r1_5 = 0)))), (192, .d (.bool false)), (193, .undef), (194, .undef), (195, .undef), (196, .d (.bool false)), (197, .d (.bool false)), (198, .d (.bool false))], [(4, .var 42 [.d (I r0_4_1.Low), .d (I r0_4_1.High)]), (0, .var 25 (cv25 t))], 5, Fr.emp, [], 0⟩ (by kernel_rfl) ?_
           obtain rfl := Option.some.inj h
           refine RunC.finJ (Can.kp (by kernel_rfl))
        ·have h := ifF hb_50 hx_46
         refine RunC.auX 11 ⟨[(3, .ptr 0 0), (7, .d (.sl 1 (List.map e3 r0_2))), (9, .d (I (wr (1 + r0_2_1)))), (21, .d (.bool r0_4)), (23, .ptr 4 0), (24, .d (I r1_5)), (25, .d (I v2)), (188, .undef), (189, .undef), (190, .undef), (191, .undef), (192, .undef), (193, .undef), (194, .undef), (195, .undef), (196, .undef), (197, .undef), (198, .d (.bool false))], [(4, .var 42 [.d (I r0_4_1.Low), .d (I r0_4_1.High)]), (0, .var 25 (cv25 t))], 5, Fr.emp, [], 0⟩ (by kernel_rfl) ?_
         obtain rfl := Option.some.inj h
         refine RunC.finJ (Can.kp (by kernel_rfl))
       ·refine RW.nil ?_
        refine hQ_45 _ ?_
        refine AW.cond rfl (fun hb_51 => ?_) (fun hb_51 => ?_)
        ·have h := ifT hb_51 h
         refine AW.sa fokW [] ⟨[(6, .d (.bool false))], [], 5, Fr.emp, [], 0⟩ (by kernel_rfl) ?_
         obtain rfl := Option.some.inj h
         have e_1 := hb_39 _ rfl
         subst e_1
         obtain rfl := Aft.bk hk_39
         exact AW.ret (hR_0 _ (retX (.cons (.tmp rfl) .nil) (.refl _) rfl (by kernel_rfl) (by kernel_rfl)))
        ·have h := ifF hb_51 h
         refine AW.skip ?_
         refine hK_42 _ ?_
         refine AW.ra fokW [] ⟨[(3, .ptr 0 0), (7, .d (.sl 1 (List.map e3 r0_2))), (9, .d (I (wr (1 + r0_2_1)))), (21, .d (.bool r0_4)), (23, .ptr 4 0), (24, .d (I r1_5)), (25, .d (I (wr (v2 + 1))))], [(4, .var 42 [.d (I r0_4_1.Low), .d (I r0_4_1.High)]), (0, .var 25 (cv25 t))], 5, Fr.emp, [], 0⟩ (by kernel_rfl) ?_
         obtain rfl := Option.some.inj h
         have ew : wr (v2 + 1) = v2 + 1 := inext (N := (t.Lean_ + 1)) (by omega) (by omega) (by omega)
         rw [ew]
         exact hK_39 _ _ rfl (Can.kp (by kernel_rfl))
      ·subst hout
       have h := Aft.nx hk_39
       refine AW.seqK (fun K_52 hK_52 => ?_)
       refine AW.sa fokW [] ⟨[(3, .ptr 0 0), (7, .d (.sl 1 (List.map e3 r0_2))), (9, .d (I (wr (1 + r0_2_1)))), (21, .d (.bool r0_4)), (23, .ptr 4 0), (24, .d (I r1_5)), (25, .d (I v2)), (174, .d (.bool (decide (v2 ≤ t.Lean_))))], [(4, .var 42 [.d (I r0_4_1.Low), .d (I r0_4_1.High)]), (0, .var 25 (cv25 t))], 5, Fr.emp, [], 0⟩ (by kernel_rfl) ?_
       refine AW.cond rfl (fun hb_53 => False.elim (by have := of_decide_eq_true hb_53; omega)) (fun hb_53 => ?_)
       refine AW.exit ?_
       refine hK_38 _ ?_
       refine AW.srwK (fun Q_54 hQ_54 => ?_)
       obtain ⟨t2_1, hx_55, h⟩ := bsome h
       refine RW.one fokW (r_call trivial rfl (k24 _ hx_55) rfl rfl (r_end ?_))
       refine RW.au fokW 1 [] ⟨[(6, .d (.bool t2_1))], [], 5, Fr.emp, [], 0⟩ (by kernel_rfl) ?_
       refine RW.nil ?_
       refine hQ_54 _ ?_
       obtain rfl := Option.some.inj h
       exact AW.ret (hR_0 _ (retX (.cons (.tmp rfl) .nil) (.refl _) rfl (by kernel_rfl) (by kernel_rfl)))
end Go.Proofs.Tz
