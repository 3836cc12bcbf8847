/- Told functions, and that the program does so, part 3. Conditions: none. -/
import Derived.Test.YtibenpfnlajakaaDoorTdb
set_option linter.unusedVariables false
set_option linter.unusedSimpArgs false
namespace Go.Proofs.Tz
open Go Go.Abs Go.Proofs
def g38_34 (b : StandBook) : (Bool × Int) → Option (Ctl (Bool × Int) (Bool)) := fun  (ok2, i) => (bif ok2 then (some (decide (i < (b.Parts.length : Int)))) else (some false)).bind fun v10 => bif v10 then ((ixL b.Parts i).bind fun p => (g87 p.Weight 1 99).bind fun r0_9 => (bif r0_9 then ((g43 p.Along (-60) 60).bind fun r0_10 => some r0_10) else (some false)).bind fun v11 => (bif v11 then ((g43 p.High 0 60).bind fun r0_11 => some r0_11) else (some false)).bind fun v12 => some (.next (v12, (wr (i + 1))))) else (some (.brk ok2))
def g38_53 (b : StandBook) : (Bool × Int) → Option (Ctl (Bool × Int) (Bool)) := fun  (ok5, i1) => (bif ok5 then (some (decide (i1 < (b.Trials.length : Int)))) else (some false)).bind fun v13 => bif v13 then ((ixL b.Trials i1).bind fun p1 => (g43 p1.Weight 1 b.Limit).bind fun r0_12 => bif r0_12 then ((g43 p1.Lean_ (wr (-b.Lean_)) b.Lean_).bind fun r0_13 => some (.next (r0_13, (wr (i1 + 1))))) else (some (.next (false, (wr (i1 + 1)))))) else (some (.brk ok5))
def g38 (b : StandBook) : Option Bool := (g18 b).bind fun A1 => (bif (decide (A1 = 0)) then ((g43 b.Kind 0 1).bind fun r0 => some r0) else (some false)).bind fun v => (bif v then ((g43 b.Front 1 60).bind fun r0_1 => some r0_1) else (some false)).bind fun v1 => (bif v1 then ((g43 b.Back 1 60).bind fun r0_2 => some r0_2) else (some false)).bind fun v2 => (bif v2 then ((g43 b.Radius 0 120).bind fun r0_3 => some r0_3) else (some false)).bind fun v3 => (bif v3 then ((g43 (b.Parts.length : Int) 1 4).bind fun r0_4 => some r0_4) else (some false)).bind fun v4 => (bif v4 then ((g43 b.Along (-60) 60).bind fun r0_5 => some r0_5) else (some false)).bind fun v5 => (bif v5 then ((g43 b.High 0 60).bind fun r0_6 => some r0_6) else (some false)).bind fun v6 => (bif v6 then ((g43 b.Lean_ 0 12).bind fun r0_7 => some r0_7) else (some false)).bind fun v7 => (bif v7 then ((g43 b.Limit 1 60).bind fun r0_8 => some r0_8) else (some false)).bind fun v8 => (bif v8 then (some (decide ((b.Trials.length : Int) ≤ 5))) else (some false)).bind fun v9 => ((whileC (g38_34 b) 1000 (v9, 0)).bind fun ok1 => some ok1).bind fun ok => ((whileC (g38_53 b) 1000 (ok, 0)).bind fun ok4 => some ok4).bind fun ok3 => some ok3
theorem k38 (b : StandBook) (r : Bool) (h : g38 b = some r) : SCall Tryd.prog Gs 38 [.agg (cv25 b)] [] 0 Fr.emp (.d (.bool r)) [] 0 Fr.emp := by
 unfold g38 at h
 refine SCall.mkK Tryd.func38 c38 rfl rfl (by kernel_rfl) (fun Q_0 hR_0 hN_0 => ?_)
 refine AW.sa fokW [] ⟨[(1, .ptr 0 0)], [(0, .var 25 (cv25 b))], 1, Fr.emp, [], 0⟩ (by kernel_rfl) ?_
 refine AW.srwK (fun Q_1 hQ_1 => ?_)
 refine RW.au fokW 1 [] ⟨[(1, .ptr 0 0), (7, .agg (cv25 b))], [(0, .var 25 (cv25 b))], 1, Fr.emp, [], 0⟩ (by kernel_rfl) ?_
 obtain ⟨A1, hx_2, h⟩ := bsome h
 refine RW.one fokW (r_call trivial rfl (k18 b _ hx_2) rfl rfl (r_end ?_))
 refine RW.au fokW 2 [] ⟨[(1, .ptr 0 0), (10, .d (.bool (decide (A1 = 0))))], [(0, .var 25 (cv25 b))], 1, Fr.emp, [], 0⟩ (by kernel_rfl) ?_
 obtain ⟨v, hx_3, h⟩ := bsome h
 refine RW.cut fokW 4 (⟨[(1, .ptr 0 0), (14, .d (.bool v))], [(0, .var 25 (cv25 b))], 1, Fr.emp, [], 0⟩) ?_ ?_
 ·refine r_split 10 rfl (fun hb_5 => ?_) (fun hb_5 => ?_)
  ·have h := ifT hb_5 hx_3
   refine RunC.auX 2 ⟨[(1, .ptr 0 0), (10, .d (.bool true)), (12, .d (I b.Kind))], [(0, .var 25 (cv25 b))], 1, Fr.emp, [], 0⟩ (by kernel_rfl) ?_
   obtain ⟨r0, hx_4, h⟩ := bsome h
   refine r_call rfl rfl (k43 b.Kind 0 1 _ hx_4) rfl rfl ?_
   refine RunC.auX 1 ⟨[(1, .ptr 0 0), (14, .d (.bool r0))], [(0, .var 25 (cv25 b))], 1, Fr.emp, [], 0⟩ (by kernel_rfl) ?_
   obtain rfl := Option.some.inj h
   refine RunC.finJ (Can.kp (by kernel_rfl))
  ·have h := ifF hb_5 hx_3
   refine RunC.auX 4 ⟨[(1, .ptr 0 0), (14, .d (.bool false))], [(0, .var 25 (cv25 b))], 1, Fr.emp, [], 0⟩ (by kernel_rfl) ?_
   obtain rfl := Option.some.inj h
   refine RunC.finJ (Can.kp (by kernel_rfl))
 ·refine RW.au fokW 1 [] ⟨[(1, .ptr 0 0), (15, .d (.bool v))], [(0, .var 25 (cv25 b))], 1, Fr.emp, [], 0⟩ (by kernel_rfl) ?_
  obtain ⟨v1, hx_6, h⟩ := bsome h
  refine RW.cut fokW 4 (⟨[(1, .ptr 0 0), (19, .d (.bool v1))], [(0, .var 25 (cv25 b))], 1, Fr.emp, [], 0⟩) ?_ ?_
  ·refine r_split 15 rfl (fun hb_8 => ?_) (fun hb_8 => ?_)
   ·have h := ifT hb_8 hx_6
    refine RunC.auX 2 ⟨[(1, .ptr 0 0), (15, .d (.bool true)), (17, .d (I b.Front))], [(0, .var 25 (cv25 b))], 1, Fr.emp, [], 0⟩ (by kernel_rfl) ?_
    obtain ⟨r0_1, hx_7, h⟩ := bsome h
    refine r_call rfl rfl (k43 b.Front 1 60 _ hx_7) rfl rfl ?_
    refine RunC.auX 1 ⟨[(1, .ptr 0 0), (19, .d (.bool r0_1))], [(0, .var 25 (cv25 b))], 1, Fr.emp, [], 0⟩ (by kernel_rfl) ?_
    obtain rfl := Option.some.inj h
    refine RunC.finJ (Can.kp (by kernel_rfl))
   ·have h := ifF hb_8 hx_6
    refine RunC.auX 4 ⟨[(1, .ptr 0 0), (19, .d (.bool false))], [(0, .var 25 (cv25 b))], 1, Fr.emp, [], 0⟩ (by kernel_rfl) ?_
    obtain rfl := Option.some.inj h
    refine RunC.finJ (Can.kp (by kernel_rfl))
  ·refine RW.au fokW 1 [] ⟨[(1, .ptr 0 0), (20, .d (.bool v1))], [(0, .var 25 (cv25 b))], 1, Fr.emp, [], 0⟩ (by kernel_rfl) ?_
   obtain ⟨v2, hx_9, h⟩ := bsome h
   refine RW.cut fokW 4 (⟨[(1, .ptr 0 0), (24, .d (.bool v2))], [(0, .var 25 (cv25 b))], 1, Fr.emp, [], 0⟩) ?_ ?_
   ·refine r_split 20 rfl (fun hb_11 => ?_) (fun hb_11 => ?_)
    ·have h := ifT hb_11 hx_9
     refine RunC.auX 2 ⟨[(1, .ptr 0 0), (20, .d (.bool true)), (22, .d (I b.Back))], [(0, .var 25 (cv25 b))], 1, Fr.emp, [], 0⟩ (by kernel_rfl) ?_
     obtain ⟨r0_2, hx_10, h⟩ := bsome h
     refine r_call rfl rfl (k43 b.Back 1 60 _ hx_10) rfl rfl ?_
     refine RunC.auX 1 ⟨[(1, .ptr 0 0), (24, .d (.bool r0_2))], [(0, .var 25 (cv25 b))], 1, Fr.emp, [], 0⟩ (by kernel_rfl) ?_
     obtain rfl := Option.some.inj h
     refine RunC.finJ (Can.kp (by kernel_rfl))
    ·have h := ifF hb_11 hx_9
     refine RunC.auX 4 ⟨[(1, .ptr 0 0), (24, .d (.bool false))], [(0, .var 25 (cv25 b))], 1, Fr.emp, [], 0⟩ (by kernel_rfl) ?_
     obtain rfl := Option.some.inj h
     refine RunC.finJ (Can.kp (by kernel_rfl))
   ·refine RW.au fokW 1 [] ⟨[(1, .ptr 0 0), (25, .d (.bool v2))], [(0, .var 25 (cv25 b))], 1, Fr.emp, [], 0⟩ (by kernel_rfl) ?_
    obtain ⟨v3, hx_12, h⟩ := bsome h
    refine RW.cut fokW 4 (⟨[(1, .ptr 0 0), (29, .d (.bool v3))], [(0, .var 25 (cv25 b))], 1, Fr.emp, [], 0⟩) ?_ ?_
    ·refine r_split 25 rfl (fun hb_14 => ?_) (fun hb_14 => ?_)
     ·have h := ifT hb_14 hx_12
      refine RunC.auX 2 ⟨[(1, .ptr 0 0), (25, .d (.bool true)), (27, .d (I b.Radius))], [(0, .var 25 (cv25 b))], 1, Fr.emp, [], 0⟩ (by kernel_rfl) ?_
      obtain ⟨r0_3, hx_13, h⟩ := bsome h
      refine r_call rfl rfl (k43 b.Radius 0 120 _ hx_13) rfl rfl ?_
      refine RunC.auX 1 ⟨[(1, .ptr 0 0), (29, .d (.bool r0_3))], [(0, .var 25 (cv25 b))], 1, Fr.emp, [], 0⟩ (by kernel_rfl) ?_
      obtain rfl := Option.some.inj h
      refine RunC.finJ (Can.kp (by kernel_rfl))
     ·have h := ifF hb_14 hx_12
      refine RunC.auX 4 ⟨[(1, .ptr 0 0), (29, .d (.bool false))], [(0, .var 25 (cv25 b))], 1, Fr.emp, [], 0⟩ (by kernel_rfl) ?_
      obtain rfl := Option.some.inj h
      refine RunC.finJ (Can.kp (by kernel_rfl))
    ·refine RW.au fokW 1 [] ⟨[(1, .ptr 0 0), (30, .d (.bool v3))], [(0, .var 25 (cv25 b))], 1, Fr.emp, [], 0⟩ (by kernel_rfl) ?_
     obtain ⟨v4, hx_15, h⟩ := bsome h
     refine RW.cut fokW 5 (⟨[(1, .ptr 0 0), (35, .d (.bool v4))], [(0, .var 25 (cv25 b))], 1, Fr.emp, [], 0⟩) ?_ ?_
     ·refine r_split 30 rfl (fun hb_17 => ?_) (fun hb_17 => ?_)
      ·have h := ifT hb_17 hx_15
       refine RunC.auX 2 ⟨[(1, .ptr 0 0), (30, .d (.bool true)), (32, .d (.sl 4 (List.map e70 b.Parts)))], [(0, .var 25 (cv25 b))], 1, Fr.emp, [], 0⟩ (by kernel_rfl) ?_
       refine r_lenX rfl rfl lenm ?_
       obtain ⟨r0_4, hx_16, h⟩ := bsome h
       refine r_call rfl rfl (k43 (b.Parts.length : Int) 1 4 _ hx_16) rfl rfl ?_
       refine RunC.auX 1 ⟨[(1, .ptr 0 0), (35, .d (.bool r0_4))], [(0, .var 25 (cv25 b))], 1, Fr.emp, [], 0⟩ (by kernel_rfl) ?_
       obtain rfl := Option.some.inj h
       refine RunC.finJ (Can.kp (by kernel_rfl))
      ·have h := ifF hb_17 hx_15
       refine RunC.auX 5 ⟨[(1, .ptr 0 0), (35, .d (.bool false))], [(0, .var 25 (cv25 b))], 1, Fr.emp, [], 0⟩ (by kernel_rfl) ?_
       obtain rfl := Option.some.inj h
       refine RunC.finJ (Can.kp (by kernel_rfl))
     ·refine RW.au fokW 1 [] ⟨[(1, .ptr 0 0), (36, .d (.bool v4))], [(0, .var 25 (cv25 b))], 1, Fr.emp, [], 0⟩ (by kernel_rfl) ?_
      obtain ⟨v5, hx_18, h⟩ := bsome h
      refine RW.cut fokW 4 (⟨[(1, .ptr 0 0), (40, .d (.bool v5))], [(0, .var 25 (cv25 b))], 1, Fr.emp, [], 0⟩) ?_ ?_
      ·refine r_split 36 rfl (fun hb_20 => ?_) (fun hb_20 => ?_)
       ·have h := ifT hb_20 hx_18
        refine RunC.auX 2 ⟨[(1, .ptr 0 0), (36, .d (.bool true)), (38, .d (I b.Along))], [(0, .var 25 (cv25 b))], 1, Fr.emp, [], 0⟩ (by kernel_rfl) ?_
        obtain ⟨r0_5, hx_19, h⟩ := bsome h
        refine r_call rfl rfl (k43 b.Along (-60) 60 _ hx_19) rfl rfl ?_
        refine RunC.auX 1 ⟨[(1, .ptr 0 0), (40, .d (.bool r0_5))], [(0, .var 25 (cv25 b))], 1, Fr.emp, [], 0⟩ (by kernel_rfl) ?_
        obtain rfl := Option.some.inj h
        refine RunC.finJ (Can.kp (by kernel_rfl))
       ·have h := ifF hb_20 hx_18
        refine RunC.auX 4 ⟨[(1, .ptr 0 0), (40, .d (.bool false))], [(0, .var 25 (cv25 b))], 1, Fr.emp, [], 0⟩ (by kernel_rfl) ?_
        obtain rfl := Option.some.inj h
        refine RunC.finJ (Can.kp (by kernel_rfl))
      ·refine RW.au fokW 1 [] ⟨[(1, .ptr 0 0), (41, .d (.bool v5))], [(0, .var 25 (cv25 b))], 1, Fr.emp, [], 0⟩ (by kernel_rfl) ?_
       obtain ⟨v6, hx_21, h⟩ := bsome h
       refine RW.cut fokW 4 (⟨[(1, .ptr 0 0), (45, .d (.bool v6))], [(0, .var 25 (cv25 b))], 1, Fr.emp, [], 0⟩) ?_ ?_
       ·refine r_split 41 rfl (fun hb_23 => ?_) (fun hb_23 => ?_)
        ·have h := ifT hb_23 hx_21
         refine RunC.auX 2 ⟨[(1, .ptr 0 0), (41, .d (.bool true)), (43, .d (I b.High))], [(0, .var 25 (cv25 b))], 1, Fr.emp, [], 0⟩ (by kernel_rfl) ?_
         obtain ⟨r0_6, hx_22, h⟩ := bsome h
         refine r_call rfl rfl (k43 b.High 0 60 _ hx_22) rfl rfl ?_
         refine RunC.auX 1 ⟨[(1, .ptr 0 0), (45, .d (.bool r0_6))], [(0, .var 25 (cv25 b))], 1, Fr.emp, [], 0⟩ (by kernel_rfl) ?_
         obtain rfl := Option.some.inj h
         refine RunC.finJ (Can.kp (by kernel_rfl))
        ·have h := ifF hb_23 hx_21
         refine RunC.auX 4 ⟨[(1, .ptr 0 0), (45, .d (.bool false))], [(0, .var 25 (cv25 b))], 1, Fr.emp, [], 0⟩ (by kernel_rfl) ?_
         obtain rfl := Option.some.inj h
         refine RunC.finJ (Can.kp (by kernel_rfl))
       ·refine RW.au fokW 1 [] ⟨[(1, .ptr 0 0), (46, .d (.bool v6))], [(0, .var 25 (cv25 b))], 1, Fr.emp, [], 0⟩ (by kernel_rfl) ?_
        obtain ⟨v7, hx_24, h⟩ := bsome h
        refine RW.cut fokW 4 (⟨[(1, .ptr 0 0), (50, .d (.bool v7))], [(0, .var 25 (cv25 b))], 1, Fr.emp, [], 0⟩) ?_ ?_
        ·refine r_split 46 rfl (fun hb_26 => ?_) (fun hb_26 => ?_)
         ·have h := ifT hb_26 hx_24
          refine RunC.auX 2 ⟨[(1, .ptr 0 0), (46, .d (.bool true)), (48, .d (I b.Lean_))], [(0, .var 25 (cv25 b))], 1, Fr.emp, [], 0⟩ (by kernel_rfl) ?_
          obtain ⟨r0_7, hx_25, h⟩ := bsome h
          refine r_call rfl rfl (k43 b.Lean_ 0 12 _ hx_25) rfl rfl ?_
          refine RunC.auX 1 ⟨[(1, .ptr 0 0), (50, .d (.bool r0_7))], [(0, .var 25 (cv25 b))], 1, Fr.emp, [], 0⟩ (by kernel_rfl) ?_
          obtain rfl := Option.some.inj h
          refine RunC.finJ (Can.kp (by kernel_rfl))
         ·have h := ifF hb_26 hx_24
          refine RunC.auX 4 ⟨[(1, .ptr 0 0), (50, .d (.bool false))], [(0, .var 25 (cv25 b))], 1, Fr.emp, [], 0⟩ (by kernel_rfl) ?_
          obtain rfl := Option.some.inj h
          refine RunC.finJ (Can.kp (by kernel_rfl))
        ·refine RW.au fokW 1 [] ⟨[(1, .ptr 0 0), (51, .d (.bool v7))], [(0, .var 25 (cv25 b))], 1, Fr.emp, [], 0⟩ (by kernel_rfl) ?_
         obtain ⟨v8, hx_27, h⟩ := bsome h
         refine RW.cut fokW 4 (⟨[(1, .ptr 0 0), (55, .d (.bool v8))], [(0, .var 25 (cv25 b))], 1, Fr.emp, [], 0⟩) ?_ ?_
         ·refine r_split 51 rfl (fun hb_29 => ?_) (fun hb_29 => ?_)
          ·have h := ifT hb_29 hx_27
           refine RunC.auX 2 ⟨[(1, .ptr 0 0), (51, .d (.bool true)), (53, .d (I b.Limit))], [(0, .var 25 (cv25 b))], 1, Fr.emp, [], 0⟩ (by kernel_rfl) ?_
           obtain ⟨r0_8, hx_28, h⟩ := bsome h
           refine r_call rfl rfl (k43 b.Limit 1 60 _ hx_28) rfl rfl ?_
           refine RunC.auX 1 ⟨[(1, .ptr 0 0), (55, .d (.bool r0_8))], [(0, .var 25 (cv25 b))], 1, Fr.emp, [], 0⟩ (by kernel_rfl) ?_
           obtain rfl := Option.some.inj h
           refine RunC.finJ (Can.kp (by kernel_rfl))
          ·have h := ifF hb_29 hx_27
           refine RunC.auX 4 ⟨[(1, .ptr 0 0), (55, .d (.bool false))], [(0, .var 25 (cv25 b))], 1, Fr.emp, [], 0⟩ (by kernel_rfl) ?_
           obtain rfl := Option.some.inj h
           refine RunC.finJ (Can.kp (by kernel_rfl))
         ·refine RW.au fokW 1 [] ⟨[(1, .ptr 0 0), (56, .d (.bool v8))], [(0, .var 25 (cv25 b))], 1, Fr.emp, [], 0⟩ (by kernel_rfl) ?_
          obtain ⟨v9, hx_30, h⟩ := bsome h
          refine RW.cut fokW 5 (⟨[(1, .ptr 0 0), (61, .d (.bool v9))], [(0, .var 25 (cv25 b))], 1, Fr.emp, [], 0⟩) ?_ ?_
          ·refine r_split 56 rfl (fun hb_31 => ?_) (fun hb_31 => ?_)
           ·have h := ifT hb_31 hx_30
            refine RunC.auX 2 ⟨[(1, .ptr 0 0), (56, .d (.bool true)), (58, .d (.sl 3 (List.map e65 b.Trials)))], [(0, .var 25 (cv25 b))], 1, Fr.emp, [], 0⟩ (by kernel_rfl) ?_
            refine r_lenX rfl rfl lenm ?_
            refine RunC.auX 2 ⟨[(1, .ptr 0 0), (61, .d (.bool (decide ((b.Trials.length : Int) ≤ 5))))], [(0, .var 25 (cv25 b))], 1, Fr.emp, [], 0⟩ (by kernel_rfl) ?_
            obtain rfl := Option.some.inj h
            refine RunC.finJ (Can.kp (by kernel_rfl))
           ·have h := ifF hb_31 hx_30
            refine RunC.auX 5 ⟨[(1, .ptr 0 0), (61, .d (.bool false))], [(0, .var 25 (cv25 b))], 1, Fr.emp, [], 0⟩ (by kernel_rfl) ?_
            obtain rfl := Option.some.inj h
            refine RunC.finJ (Can.kp (by kernel_rfl))
          ·refine RW.au fokW 1 [] ⟨[(1, .ptr 0 0), (3, .d (.bool v9))], [(0, .var 25 (cv25 b))], 1, Fr.emp, [], 0⟩ (by kernel_rfl) ?_
           refine RW.nil ?_
           refine hQ_1 _ ?_
           obtain ⟨ok, hx_32, h⟩ := bsome h
           refine AW.jnSK (fun (ok : Bool) => ⟨[(1, .ptr 0 0), (3, .d (.bool ok))], [(0, .var 25 (cv25 b))], 1, Fr.emp, [], 0⟩) (c := ok) (fun K_32 hK_32 => ?_) ?_
           ·have h := hx_32
            refine AW.sa fokW [] ⟨[(1, .ptr 0 0), (3, .d (.bool v9)), (4, .d (I 0))], [(0, .var 25 (cv25 b))], 1, Fr.emp, [], 0⟩ (by kernel_rfl) ?_
            obtain ⟨ok1, hx_33, h⟩ := bsome h
            refine AW.jqSK (fun (ok1 : Bool) => ⟨[(1, .ptr 0 0), (3, .d (.bool ok1))], [(0, .var 25 (cv25 b))], 1, Fr.emp, [], 0⟩) (c := ok1) (fun K_33 hK_33 => ?_) ?_
            ·have h := hx_33
             refine AW.block ?_
             refine AW.whK (fun (⟨ok2, i⟩ : Bool × Int) => ⟨[(1, .ptr 0 0), (3, .d (.bool ok2)), (4, .d (I i))], [(0, .var 25 (cv25 b))], 1, Fr.emp, [], 0⟩) (g38_34 b) h (Can.kp (by kernel_rfl)) (fun s_34 c_34 h hb_34 K_34 hK_34 => ?_)
             obtain ⟨ok2, i⟩ := s_34
             unfold g38_34 at h
             refine AW.seqK (fun K_35 hK_35 => ?_)
             refine AW.srwK (fun Q_36 hQ_36 => ?_)
             refine RW.au fokW 2 [] ⟨[(1, .ptr 0 0), (3, .d (.bool ok2)), (4, .d (I i)), (63, .d (.bool ok2))], [(0, .var 25 (cv25 b))], 1, Fr.emp, [], 0⟩ (by kernel_rfl) ?_
             obtain ⟨v10, hx_37, h⟩ := bsome h
             refine RW.cut fokW 6 (⟨[(1, .ptr 0 0), (3, .d (.bool ok2)), (4, .d (I i)), (69, .d (.bool v10))], [(0, .var 25 (cv25 b))], 1, Fr.emp, [], 0⟩) ?_ ?_
             ·refine r_split 63 rfl (fun hb_38 => ?_) (fun hb_38 => ?_)
              ·have h := ifT hb_38 hx_37
               refine RunC.auX 3 ⟨[(1, .ptr 0 0), (3, .d (.bool ok2)), (4, .d (I i)), (63, .d (.bool true)), (64, .d (I i)), (65, .ptr 0 4), (66, .d (.sl 4 (List.map e70 b.Parts)))], [(0, .var 25 (cv25 b))], 1, Fr.emp, [], 0⟩ (by kernel_rfl) ?_
               refine r_lenX rfl rfl lenm ?_
               refine RunC.auX 2 ⟨[(1, .ptr 0 0), (3, .d (.bool ok2)), (4, .d (I i)), (64, .d (I i)), (65, .ptr 0 4), (66, .d (.sl 4 (List.map e70 b.Parts))), (67, .d (I (b.Parts.length : Int))), (68, .d (.bool (decide (i < (b.Parts.length : Int))))), (69, .d (.bool (decide (i < (b.Parts.length : Int)))))], [(0, .var 25 (cv25 b))], 1, Fr.emp, [], 0⟩ (by kernel_rfl) ?_
               obtain rfl := Option.some.inj h
               refine RunC.finJ (Can.kp (by kernel_rfl))
              ·have h := ifF hb_38 hx_37
               refine RunC.auX 6 ⟨[(1, .ptr 0 0), (3, .d (.bool ok2)), (4, .d (I i)), (64, .undef), (65, .undef), (66, .undef), (67, .undef), (68, .undef), (69, .d (.bool false))], [(0, .var 25 (cv25 b))], 1, Fr.emp, [], 0⟩ (by kernel_rfl) ?_
               obtain rfl := Option.some.inj h
               refine RunC.finJ (Can.kp (by kernel_rfl))
             ·refine RW.nil ?_
              refine hQ_36 _ ?_
              refine AW.cond rfl (fun hb_39 => ?_) (fun hb_39 => ?_)
              ·have h := ifT hb_39 h
               refine AW.skip ?_
               refine hK_35 _ ?_
               refine AW.seqK (fun K_40 hK_40 => ?_)
               refine AW.block ?_
               refine AW.srwK (fun Q_41 hQ_41 => ?_)
               refine RW.au fokW 3 [] ⟨[(1, .ptr 0 0), (4, .d (I i)), (73, .d (.sl 4 (List.map e70 b.Parts))), (74, .d (I i))], [(0, .var 25 (cv25 b))], 1, Fr.emp, [], 0⟩ (by kernel_rfl) ?_
               obtain ⟨p, hv_42, h⟩ := bsome h
               refine RW.one fokW (r_iaD trivial rfl rfl (ixL_ok hv_42).1 (row := e70 p) (mapget (ixL_ok hv_42).2) (r_end ?_))
               refine RW.au fokW 3 [] ⟨[(1, .ptr 0 0), (4, .d (I i)), (5, .ptr 1 0)], [(1, .var 70 (cv70 p)), (0, .var 25 (cv25 b))], 2, Fr.emp, [], 0⟩ (by kernel_rfl) ?_
               refine RW.nil ?_
               refine hQ_41 _ ?_
               refine AW.rw ?_
               refine RW.au fokW 2 [] ⟨[(1, .ptr 0 0), (4, .d (I i)), (5, .ptr 1 0), (78, .agg [.d (I p.Weight.Low), .d (I p.Weight.High)])], [(1, .var 70 (cv70 p)), (0, .var 25 (cv25 b))], 2, Fr.emp, [], 0⟩ (by kernel_rfl) ?_
               obtain ⟨r0_9, hx_44, h⟩ := bsome h
               refine RW.one fokW (r_call trivial rfl (k87 p.Weight 1 99 _ hx_44) rfl rfl (r_end ?_))
               refine RW.au fokW 1 [] ⟨[(1, .ptr 0 0), (4, .d (I i)), (5, .ptr 1 0), (80, .d (.bool r0_9))], [(1, .var 70 (cv70 p)), (0, .var 25 (cv25 b))], 2, Fr.emp, [], 0⟩ (by kernel_rfl) ?_
               obtain ⟨v11, hx_45, h⟩ := bsome h
               refine RW.cut fokW 4 (⟨[(1, .ptr 0 0), (4, .d (I i)), (5, .ptr 1 0), (84, .d (.bool v11))], [(1, .var 70 (cv70 p)), (0, .var 25 (cv25 b))], 2, Fr.emp, [], 0⟩) ?_ ?_
               ·refine r_split 80 rfl (fun hb_47 => ?_) (fun hb_47 => ?_)
                ·have h := ifT hb_47 hx_45
                 refine RunC.auX 2 ⟨[(1, .ptr 0 0), (4, .d (I i)), (5, .ptr 1 0), (80, .d (.bool true)), (81, .ptr 1 2), (82, .d (I p.Along))], [(1, .var 70 (cv70 p)), (0, .var 25 (cv25 b))], 2, Fr.emp, [], 0⟩ (by kernel_rfl) ?_
                 obtain ⟨r0_10, hx_46, h⟩ := bsome h
                 refine r_call rfl rfl (k43 p.Along (-60) 60 _ hx_46) rfl rfl ?_
                 refine RunC.auX 1 ⟨[(1, .ptr 0 0), (4, .d (I i)), (5, .ptr 1 0), (81, .ptr 1 2), (82, .d (I p.Along)), (83, .d (.bool r0_10)), (84, .d (.bool r0_10))], [(1, .var 70 (cv70 p)), (0, .var 25 (cv25 b))], 2, Fr.emp, [], 0⟩ (by kernel_rfl) ?_
                 obtain rfl := Option.some.inj h
                 refine RunC.finJ (Can.kp (by kernel_rfl))
                ·have h := ifF hb_47 hx_45
                 refine RunC.auX 4 ⟨[(1, .ptr 0 0), (4, .d (I i)), (5, .ptr 1 0), (81, .undef), (82, .undef), (83, .undef), (84, .d (.bool false))], [(1, .var 70 (cv70 p)), (0, .var 25 (cv25 b))], 2, Fr.emp, [], 0⟩ (by kernel_rfl) ?_
                 obtain rfl := Option.some.inj h
                 refine RunC.finJ (Can.kp (by kernel_rfl))
               ·refine RW.au fokW 1 [] ⟨[(1, .ptr 0 0), (4, .d (I i)), (5, .ptr 1 0), (85, .d (.bool v11))], [(1, .var 70 (cv70 p)), (0, .var 25 (cv25 b))], 2, Fr.emp, [], 0⟩ (by kernel_rfl) ?_
                obtain ⟨v12, hx_48, h⟩ := bsome h
                refine RW.cut fokW 4 (⟨[(1, .ptr 0 0), (4, .d (I i)), (89, .d (.bool v12))], [(0, .var 25 (cv25 b))], 1, Fr.emp, [], 0⟩) ?_ ?_
                ·refine r_split 85 rfl (fun hb_50 => ?_) (fun hb_50 => ?_)
                 ·have h := ifT hb_50 hx_48
                  refine RunC.auX 2 ⟨[(1, .ptr 0 0), (4, .d (I i)), (85, .d (.bool true)), (86, .ptr 1 3), (87, .d (I p.High))], [(1, .var 70 (cv70 p)), (0, .var 25 (cv25 b))], 2, Fr.emp, [], 0⟩ (by kernel_rfl) ?_
                  obtain ⟨r0_11, hx_49, h⟩ := bsome h
                  refine r_call rfl rfl (k43 p.High 0 60 _ hx_49) rfl rfl ?_
                  refine RunC.auX 1 ⟨[(1, .ptr 0 0), (4, .d (I i)), (86, .ptr 1 3), (87, .d (I p.High)), (88, .d (.bool r0_11)), (89, .d (.bool r0_11))], [(1, .var 70 (cv70 p)), (0, .var 25 (cv25 b))], 2, Fr.emp, [], 0⟩ (by kernel_rfl) ?_
                  obtain rfl := Option.some.inj h
                  refine RunC.finJ (Can.kp (by kernel_rfl))
                 ·have h := ifF hb_50 hx_48
                  refine RunC.auX 4 ⟨[(1, .ptr 0 0), (4, .d (I i)), (86, .undef), (87, .undef), (88, .undef), (89, .d (.bool false))], [(1, .var 70 (cv70 p)), (0, .var 25 (cv25 b))], 2, Fr.emp, [], 0⟩ (by kernel_rfl) ?_
                  obtain rfl := Option.some.inj h
                  refine RunC.finJ (Can.kp (by kernel_rfl))
                ·refine RW.au fokW 1 [] ⟨[(1, .ptr 0 0), (3, .d (.bool v12)), (4, .d (I i))], [(0, .var 25 (cv25 b))], 1, Fr.emp, [], 0⟩ (by kernel_rfl) ?_
                 refine RW.nil ?_
                 refine hK_40 _ ?_
                 refine AW.ra fokW [] ⟨[(1, .ptr 0 0), (3, .d (.bool v12)), (4, .d (I (wr (i + 1))))], [(0, .var 25 (cv25 b))], 1, Fr.emp, [], 0⟩ (by kernel_rfl) ?_
                 obtain rfl := Option.some.inj h
                 exact hK_34 _ _ rfl (Can.kp (by kernel_rfl))
              ·have h := ifF hb_39 h
               refine AW.exit ?_
               obtain rfl := Option.some.inj h
               obtain rfl := hb_34 _ rfl
               exact hK_33 _ (Can.kp (by kernel_rfl))
            ·obtain rfl := Option.some.inj h
             exact hK_32 _ (Can.kp (by kernel_rfl))
           ·obtain ⟨ok3, hx_51, h⟩ := bsome h
            refine AW.jnSK (fun (ok3 : Bool) => ⟨[(3, .d (.bool ok3))], [], 0, Fr.emp, [], 0⟩) (c := ok3) (fun K_51 hK_51 => ?_) ?_
            ·have h := hx_51
             refine AW.sa fokW [] ⟨[(1, .ptr 0 0), (3, .d (.bool ok)), (6, .d (I 0))], [(0, .var 25 (cv25 b))], 1, Fr.emp, [], 0⟩ (by kernel_rfl) ?_
             obtain ⟨ok4, hx_52, h⟩ := bsome h
             refine AW.jqSK (fun (ok4 : Bool) => ⟨[(3, .d (.bool ok4))], [], 0, Fr.emp, [], 0⟩) (c := ok4) (fun K_52 hK_52 => ?_) ?_
             ·have h := hx_52
              refine AW.block ?_
              refine AW.whK (fun (⟨ok5, i1⟩ : Bool × Int) => ⟨[(1, .ptr 0 0), (3, .d (.bool ok5)), (6, .d (I i1))], [(0, .var 25 (cv25 b))], 1, Fr.emp, [], 0⟩) (g38_53 b) h (Can.kp (by kernel_rfl)) (fun s_53 c_53 h hb_53 K_53 hK_53 => ?_)
              obtain ⟨ok5, i1⟩ := s_53
              unfold g38_53 at h
              refine AW.seqK (fun K_54 hK_54 => ?_)
              refine AW.srwK (fun Q_55 hQ_55 => ?_)
              refine RW.au fokW 2 [] ⟨[(1, .ptr 0 0), (3, .d (.bool ok5)), (6, .d (I i1)), (91, .d (.bool ok5))], [(0, .var 25 (cv25 b))], 1, Fr.emp, [], 0⟩ (by kernel_rfl) ?_
              obtain ⟨v13, hx_56, h⟩ := bsome h
              refine RW.cut fokW 6 (⟨[(1, .ptr 0 0), (3, .d (.bool ok5)), (6, .d (I i1)), (97, .d (.bool v13))], [(0, .var 25 (cv25 b))], 1, Fr.emp, [], 0⟩) ?_ ?_
              ·refine r_split 91 rfl (fun hb_57 => ?_) (fun hb_57 => ?_)
               ·have h := ifT hb_57 hx_56
                refine RunC.auX 3 ⟨[(1, .ptr 0 0), (3, .d (.bool ok5)), (6, .d (I i1)), (91, .d (.bool true)), (92, .d (I i1)), (93, .ptr 0 9), (94, .d (.sl 3 (List.map e65 b.Trials)))], [(0, .var 25 (cv25 b))], 1, Fr.emp, [], 0⟩ (by kernel_rfl) ?_
                refine r_lenX rfl rfl lenm ?_
                refine RunC.auX 2 ⟨[(1, .ptr 0 0), (3, .d (.bool ok5)), (6, .d (I i1)), (92, .d (I i1)), (93, .ptr 0 9), (94, .d (.sl 3 (List.map e65 b.Trials))), (95, .d (I (b.Trials.length : Int))), (96, .d (.bool (decide (i1 < (b.Trials.length : Int))))), (97, .d (.bool (decide (i1 < (b.Trials.length : Int)))))], [(0, .var 25 (cv25 b))], 1, Fr.emp, [], 0⟩ (by kernel_rfl) ?_
                obtain rfl := Option.some.inj h
                refine RunC.finJ (Can.kp (by kernel_rfl))
               ·have h := ifF hb_57 hx_56
                refine RunC.auX 6 ⟨[(1, .ptr 0 0), (3, .d (.bool ok5)), (6, .d (I i1)), (92, .undef), (93, .undef), (94, .undef), (95, .undef), (96, .undef), (97, .d (.bool false))], [(0, .var 25 (cv25 b))], 1, Fr.emp, [], 0⟩ (by kernel_rfl) ?_
                obtain rfl := Option.some.inj h
                refine RunC.finJ (Can.kp (by kernel_rfl))
              ·refine RW.nil ?_
               refine hQ_55 _ ?_
               refine AW.cond rfl (fun hb_58 => ?_) (fun hb_58 => ?_)
               ·have h := ifT hb_58 h
                refine AW.skip ?_
                refine hK_54 _ ?_
                refine AW.seqK (fun K_59 hK_59 => ?_)
                refine AW.block ?_
                refine AW.drw fokW ?_
                refine RunC.auX 3 ⟨[(1, .ptr 0 0), (6, .d (I i1)), (101, .d (.sl 3 (List.map e65 b.Trials))), (102, .d (I i1))], [(0, .var 25 (cv25 b))], 1, Fr.emp, [], 0⟩ (by kernel_rfl) ?_
                obtain ⟨p1, hv_61, h⟩ := bsome h
                refine r_iaD trivial rfl rfl (ixL_ok hv_61).1 (row := e65 p1) (mapget (ixL_ok hv_61).2) ?_
                refine RunC.auX 4 ⟨[(1, .ptr 0 0), (6, .d (I i1)), (105, .d (I p1.Weight)), (107, .d (I b.Limit))], [(0, .var 25 (cv25 b))], 1, Fr.emp, [], 0⟩ (by kernel_rfl) ?_
                obtain ⟨r0_12, hx_62, h⟩ := bsome h
                refine r_call trivial rfl (k43 p1.Weight 1 b.Limit _ hx_62) rfl rfl ?_
                refine RunC.auX 1 ⟨[(1, .ptr 0 0), (6, .d (I i1)), (109, .d (.bool r0_12))], [(0, .var 25 (cv25 b))], 1, Fr.emp, [], 0⟩ (by kernel_rfl) ?_
                refine r_split 109 rfl (fun hb_63 => ?_) (fun hb_63 => ?_)
                ·have h := ifT hb_63 h
                 refine RunC.auX 3 ⟨[(1, .ptr 0 0), (6, .d (I i1)), (109, .d (.bool true)), (110, .ptr 0 9), (111, .d (.sl 3 (List.map e65 b.Trials))), (112, .d (I i1))], [(0, .var 25 (cv25 b))], 1, Fr.emp, [], 0⟩ (by kernel_rfl) ?_
                 refine r_iaD rfl rfl rfl (ixL_ok hv_61).1 (row := e65 p1) (mapget (ixL_ok hv_61).2) ?_
                 refine RunC.auX 7 ⟨[(1, .ptr 0 0), (6, .d (I i1)), (109, .d (.bool true)), (110, .ptr 0 9), (111, .d (.sl 3 (List.map e65 b.Trials))), (112, .d (I i1)), (113, .fp (e65 p1) 0), (114, .fp (e65 p1) 1), (115, .d (I p1.Lean_)), (116, .ptr 0 7), (117, .d (I b.Lean_)), (118, .d (I (wr (-b.Lean_)))), (119, .ptr 0 7), (120, .d (I b.Lean_))], [(0, .var 25 (cv25 b))], 1, Fr.emp, [], 0⟩ (by kernel_rfl) ?_
                 obtain ⟨r0_13, hx_64, h⟩ := bsome h
                 refine r_call rfl rfl (k43 p1.Lean_ (wr (-b.Lean_)) b.Lean_ _ hx_64) rfl rfl ?_
                 refine RunC.auX 2 ⟨[(1, .ptr 0 0), (3, .d (.bool r0_13)), (6, .d (I i1)), (110, .ptr 0 9), (111, .d (.sl 3 (List.map e65 b.Trials))), (112, .d (I i1)), (113, .fp (e65 p1) 0), (114, .fp (e65 p1) 1), (115, .d (I p1.Lean_)), (116, .ptr 0 7), (117, .d (I b.Lean_)), (118, .d (I (wr (-b.Lean_)))), (119, .ptr 0 7), (120, .d (I b.Lean_)), (121, .d (.bool r0_13))], [(0, .var 25 (cv25 b))], 1, Fr.emp, [], 0⟩ (by kernel_rfl) ?_
                 refine RunC.fin ⟨[(1, .ptr 0 0), (3, .d (.bool r0_13)), (6, .d (I i1)), (110, .ptr 0 9), (111, .d (.sl 3 (List.map e65 b.Trials))), (112, .d (I i1)), (113, .fp (e65 p1) 0), (114, .fp (e65 p1) 1), (115, .d (I p1.Lean_)), (116, .ptr 0 7), (117, .d (I b.Lean_)), (118, .d (I (wr (-b.Lean_)))), (119, .ptr 0 7), (120, .d (I b.Lean_)), (121, .d (.bool r0_13))], [(0, .var 25 (cv25 b))], 1, Fr.emp, [], 0⟩ (by kernel_rfl) (by kernel_rfl) ?_
                 refine hK_59 _ ?_
                 refine AW.ra fokW [] ⟨[(1, .ptr 0 0), (3, .d (.bool r0_13)), (6, .d (I (wr (i1 + 1)))), (110, .ptr 0 9), (111, .d (.sl 3 (List.map e65 b.Trials))), (112, .d (I i1)), (113, .fp (e65 p1) 0), (114, .fp (e65 p1) 1), (115, .d (I p1.Lean_)), (116, .ptr 0 7), (117, .d (I b.Lean_)), (118, .d (I (wr (-b.Lean_)))), (119, .ptr 0 7), (120, .d (I b.Lean_)), (121, .d (.bool r0_13))], [(0, .var 25 (cv25 b))], 1, Fr.emp, [], 0⟩ (by kernel_rfl) ?_
                 obtain rfl := Option.some.inj h
                 exact hK_53 _ _ rfl (Can.kp (by kernel_rfl))
                ·have h := ifF hb_63 h
                 refine RunC.auX 14 ⟨[(1, .ptr 0 0), (3, .d (.bool false)), (6, .d (I i1)), (110, .undef), (111, .undef), (112, .undef), (113, .undef), (114, .undef), (115, .undef), (116, .undef), (117, .undef), (118, .undef), (119, .undef), (120, .undef), (121, .undef)], [(0, .var 25 (cv25 b))], 1, Fr.emp, [], 0⟩ (by kernel_rfl) ?_
                 refine RunC.fin ⟨[(1, .ptr 0 0), (3, .d (.bool false)), (6, .d (I i1)), (110, .undef), (111, .undef), (112, .undef), (113, .undef), (114, .undef), (115, .undef), (116, .undef), (117, .undef), (118, .undef), (119, .undef), (120, .undef), (121, .undef)], [(0, .var 25 (cv25 b))], 1, Fr.emp, [], 0⟩ (by kernel_rfl) (by kernel_rfl) ?_
                 refine hK_59 _ ?_
                 refine AW.ra fokW [] ⟨[(1, .ptr 0 0), (3, .d (.bool false)), (6, .d (I (wr (i1 + 1)))), (110, .undef), (111, .undef), (112, .undef), (113, .undef), (114, .undef), (115, .undef), (116, .undef), (117, .undef), (118, .undef), (119, .undef), (120, .undef), (121, .undef)], [(0, .var 25 (cv25 b))], 1, Fr.emp, [], 0⟩ (by kernel_rfl) ?_
                 obtain rfl := Option.some.inj h
                 exact hK_53 _ _ rfl (Can.kp (by kernel_rfl))
               ·have h := ifF hb_58 h
                refine AW.exit ?_
                obtain rfl := Option.some.inj h
                obtain rfl := hb_53 _ rfl
                exact hK_52 _ (Can.kp (by kernel_rfl))
             ·obtain rfl := Option.some.inj h
              exact hK_51 _ (Can.kp (by kernel_rfl))
            ·refine AW.sa fokW [] ⟨[(2, .d (.bool ok3))], [], 0, Fr.emp, [], 0⟩ (by kernel_rfl) ?_
             obtain rfl := Option.some.inj h
             exact AW.ret (hR_0 _ (retX (.cons (.tmp rfl) .nil) (.refl _) rfl (by kernel_rfl) (by kernel_rfl)))
def g41 (n : Int) (many : Int) : Option Int := bif (decide (many < 1)) then (some 0) else ((must (decide (many ≠ 0))).bind fun _ => bif (decide ((n.tmod many) < 0)) then (some (wr ((n.tmod many) + many))) else (some (n.tmod many)))
theorem k41 (n : Int) (many : Int) (r : Int) (h : g41 n many = some r) : SCall Tryd.prog Gs 41 [.d (I n), .d (I many)] [] 0 Fr.emp (.d (I r)) [] 0 Fr.emp := by
 unfold g41 at h
 refine SCall.mkK Tryd.func41 c41 rfl rfl (by kernel_rfl) (fun Q_0 hR_0 hN_0 => ?_)
 refine AW.sa fokW [] ⟨[(0, .d (I n)), (1, .d (I many))], [], 0, Fr.emp, [], 0⟩ (by kernel_rfl) ?_
 refine AW.seqK (fun K_1 hK_1 => ?_)
 refine AW.sa fokW [] ⟨[(0, .d (I n)), (1, .d (I many)), (7, .d (.bool (decide (many < 1))))], [], 0, Fr.emp, [], 0⟩ (by kernel_rfl) ?_
 refine AW.cond rfl (fun hb_2 => ?_) (fun hb_2 => ?_)
 ·have h := ifT hb_2 h
  refine AW.sa fokW [] ⟨[(4, .d (I 0))], [], 0, Fr.emp, [], 0⟩ (by kernel_rfl) ?_
  obtain rfl := Option.some.inj h
  exact AW.ret (hR_0 _ (retX (.cons (.tmp rfl) .nil) (.refl _) rfl (by kernel_rfl) (by kernel_rfl)))
 ·have h := ifF hb_2 h
  refine AW.skip ?_
  refine hK_1 _ ?_
  refine AW.srwK (fun Q_3 hQ_3 => ?_)
  refine RW.au fokW 2 [] ⟨[(1, .d (I many)), (8, .d (I n)), (9, .d (I many))], [], 0, Fr.emp, [], 0⟩ (by kernel_rfl) ?_
  obtain ⟨_, hv_4, h⟩ := bsome h
  refine RW.one fokW (r_rem trivial rfl rfl (of_decide_eq_true (must_ok hv_4)) (r_end ?_))
  refine RW.au fokW 1 [] ⟨[(1, .d (I many)), (5, .d (I (n.tmod many)))], [], 0, Fr.emp, [], 0⟩ (by kernel_rfl) ?_
  refine RW.nil ?_
  refine hQ_3 _ ?_
  refine AW.seqK (fun K_5 hK_5 => ?_)
  refine AW.sa fokW [] ⟨[(1, .d (I many)), (5, .d (I (n.tmod many))), (12, .d (.bool (decide ((n.tmod many) < 0))))], [], 0, Fr.emp, [], 0⟩ (by kernel_rfl) ?_
  refine AW.cond rfl (fun hb_6 => ?_) (fun hb_6 => ?_)
  ·have h := ifT hb_6 h
   refine AW.ra fokW [] ⟨[(5, .d (I (wr ((n.tmod many) + many))))], [], 0, Fr.emp, [], 0⟩ (by kernel_rfl) ?_
   refine hK_5 _ ?_
   refine AW.sa fokW [] ⟨[(4, .d (I (wr ((n.tmod many) + many))))], [], 0, Fr.emp, [], 0⟩ (by kernel_rfl) ?_
   obtain rfl := Option.some.inj h
   exact AW.ret (hR_0 _ (retX (.cons (.tmp rfl) .nil) (.refl _) rfl (by kernel_rfl) (by kernel_rfl)))
  ·have h := ifF hb_6 h
   refine AW.skip ?_
   refine hK_5 _ ?_
   refine AW.sa fokW [] ⟨[(4, .d (I (n.tmod many)))], [], 0, Fr.emp, [], 0⟩ (by kernel_rfl) ?_
   obtain rfl := Option.some.inj h
   exact AW.ret (hR_0 _ (retX (.cons (.tmp rfl) .nil) (.refl _) rfl (by kernel_rfl) (by kernel_rfl)))
end Go.Proofs.Tz
namespace Go.Proofs.Tz
open Go Go.Abs Go.Proofs
def g48 (b : StandBook) : Option StandBook := some (StandBook.mk b.Kind b.Front b.Back b.Radius b.Parts b.Along b.High b.Lean_ b.Limit [])
theorem k48 (b : StandBook) (r : StandBook) (h : g48 b = some r) : SCall Tryd.prog Gs 48 [.agg (cv25 b)] [] 0 Fr.emp (.agg (cv25 r)) [] 0 Fr.emp := by
 unfold g48 at h
 refine SCall.mkK Tryd.func48 c48 rfl rfl (by kernel_rfl) (fun Q_0 hR_0 hN_0 => ?_)
 refine AW.sa fokW [] ⟨[(1, .ptr 0 0), (2, .ptr 1 0)], [(1, .var 25 [.d (I 0), .d (I 0), .d (I 0), .d (I 0), .d (.nilSl), .d (I 0), .d (I 0), .d (I 0), .d (I 0), .d (.nilSl)]), (0, .var 25 (cv25 b))], 2, Fr.emp, [], 0⟩ (by kernel_rfl) ?_
 refine AW.sa fokW [] ⟨[(2, .ptr 1 0), (3, .ptr 2 0)], [(2, .var 25 (cv25 b)), (1, .var 25 [.d (I 0), .d (I 0), .d (I 0), .d (I 0), .d (.nilSl), .d (I 0), .d (I 0), .d (I 0), .d (I 0), .d (.nilSl)])], 3, Fr.emp, [], 0⟩ (by kernel_rfl) ?_
 refine AW.sa fokW [] ⟨[(2, .ptr 1 0), (3, .ptr 2 0)], [(2, .var 25 [.d (I b.Kind), .d (I b.Front), .d (I b.Back), .d (I b.Radius), .d (.sl 4 (List.map e70 b.Parts)), .d (I b.Along), .d (I b.High), .d (I b.Lean_), .d (I b.Limit), .d (.nilSl)]), (1, .var 25 [.d (I 0), .d (I 0), .d (I 0), .d (I 0), .d (.nilSl), .d (I 0), .d (I 0), .d (I 0), .d (I 0), .d (.nilSl)])], 3, Fr.emp, [], 0⟩ (by kernel_rfl) ?_
 refine AW.sa fokW [] ⟨[(2, .ptr 1 0)], [(1, .var 25 [.d (I b.Kind), .d (I b.Front), .d (I b.Back), .d (I b.Radius), .d (.sl 4 (List.map e70 b.Parts)), .d (I b.Along), .d (I b.High), .d (I b.Lean_), .d (I b.Limit), .d (.nilSl)])], 3, Fr.emp, [], 0⟩ (by kernel_rfl) ?_
 obtain rfl := Option.some.inj h
 exact AW.ret (hR_0 _ (retX (.cons (.agg rfl rfl (Nat.le_of_ble_eq_true rfl)) .nil) (Frz.agg_of ⟨.refl _, .refl _, .refl _, .refl _, .refl _, .refl _, .refl _, .refl _, .refl _, (.nil 3), trivial⟩) rfl (by kernel_rfl) (by kernel_rfl)))
def g12_23 (b : StandBook) (r0 : StandBook) (r1_5 : Int) : Int → Int → Unit → Option (Ctl (Unit) (Bool)) := fun i p _ => bif ((((decide (p < 0)) || ((decide (r1_5 ≠ 0)) && (decide (i ≠ 1)))) || (decide (60 < (wr (b.Front + p))))) || (decide (60 < (wr (b.Back + p))))) then (some (.next ())) else ((g27 (StandBook.mk r0.Kind (wr (b.Front + p)) (wr (b.Back + p)) r0.Radius r0.Parts r0.Along r0.High r0.Lean_ r0.Limit r0.Trials)).bind fun (r0_4_1, r1_5_1) => bif ((true != ((decide (r1_5_1 = 4)) == (decide (i ≠ 1)))) || ((decide (r1_5_1 ≠ 0)) && (decide (r1_5_1 ≠ 4)))) then (some (.brk false)) else (some (.next ())))
def g12 (b : StandBook) (n : Int) : Option Bool := (g38 b).bind fun r0_14 => bif (!r0_14) then ((g24).bind fun t2 => some t2) else ((g48 b).bind fun r0 => (g33 r0).bind fun (r0_4, r1_5) => (bif ((decide (r1_5 ≠ 0)) && ((decide (r1_5 ≠ 4)) || (decide (r0_4 ≠ 0)))) then (some true) else (bif (decide (r1_5 = 0)) then ((g43 r0_4 0 20).bind fun r0_1 => some (!r0_1)) else (some false))).bind fun v => bif v then (some false) else ((bif (decide (r1_5 ≠ 0)) then (some 21) else (some r0_4)).bind fun wider => (g41 n 20).bind fun r0_2 => bindC (eachC (g12_23 b r0 r1_5) [wider, (wr (wider - 1)), (wr (wider + r0_2))] 0 ()) fun _ => (g24).bind fun t2_1 => some t2_1))
theorem k12 (b : StandBook) (n : Int) (r : Bool) (h : g12 b n = some r) : SCall Tryd.prog Gs 12 [.agg (cv25 b), .d (I n)] [] 0 Fr.emp (.d (.bool r)) [] 0 Fr.emp := by
 unfold g12 at h
 refine SCall.mkK Tryd.func12 c12 rfl rfl (by kernel_rfl) (fun Q_0 hR_0 hN_0 => ?_)
 refine AW.sa fokW [] ⟨[(1, .d (I n)), (2, .ptr 0 0)], [(0, .var 25 (cv25 b))], 1, Fr.emp, [], 0⟩ (by kernel_rfl) ?_
 refine AW.seqK (fun K_1 hK_1 => ?_)
 refine AW.srwK (fun Q_2 hQ_2 => ?_)
 refine RW.au fokW 1 [] ⟨[(1, .d (I n)), (2, .ptr 0 0), (13, .agg (cv25 b))], [(0, .var 25 (cv25 b))], 1, Fr.emp, [], 0⟩ (by kernel_rfl) ?_
 obtain ⟨r0_14, hx_3, h⟩ := bsome h
 refine RW.one fokW (r_call trivial rfl (k38 b _ hx_3) rfl rfl (r_end ?_))
 refine RW.au fokW 1 [] ⟨[(1, .d (I n)), (2, .ptr 0 0), (15, .d (.bool (!r0_14)))], [(0, .var 25 (cv25 b))], 1, Fr.emp, [], 0⟩ (by kernel_rfl) ?_
 refine RW.nil ?_
 refine hQ_2 _ ?_
 refine AW.cond rfl (fun hb_4 => ?_) (fun hb_4 => ?_)
 ·have h := ifT hb_4 h
  refine AW.srwK (fun Q_5 hQ_5 => ?_)
  obtain ⟨t2, hx_6, h⟩ := bsome h
  refine RW.one fokW (r_call trivial rfl (k24 _ hx_6) rfl rfl (r_end ?_))
  refine RW.au fokW 1 [] ⟨[(4, .d (.bool t2))], [], 1, Fr.emp, [], 0⟩ (by kernel_rfl) ?_
  refine RW.nil ?_
  refine hQ_5 _ ?_
  obtain rfl := Option.some.inj h
  exact AW.ret (hR_0 _ (retX (.cons (.tmp rfl) .nil) (.refl _) rfl (by kernel_rfl) (by kernel_rfl)))
 ·have h := ifF hb_4 h
  refine AW.skip ?_
  refine hK_1 _ ?_
  refine AW.srwK (fun Q_7 hQ_7 => ?_)
  refine RW.au fokW 1 [] ⟨[(1, .d (I n)), (2, .ptr 0 0), (17, .agg (cv25 b))], [(0, .var 25 (cv25 b))], 1, Fr.emp, [], 0⟩ (by kernel_rfl) ?_
  obtain ⟨r0, hx_8, h⟩ := bsome h
  refine RW.one fokW (r_call trivial rfl (k48 b _ hx_8) rfl rfl (r_end ?_))
  refine RW.au fokW 2 [] ⟨[(1, .d (I n)), (2, .ptr 0 0), (5, .ptr 1 0)], [(1, .var 25 (cv25 r0)), (0, .var 25 (cv25 b))], 2, Fr.emp, [], 0⟩ (by kernel_rfl) ?_
  refine RW.nil ?_
  refine hQ_7 _ ?_
  refine AW.srwK (fun Q_9 hQ_9 => ?_)
  refine RW.au fokW 1 [] ⟨[(1, .d (I n)), (2, .ptr 0 0), (5, .ptr 1 0), (20, .agg (cv25 r0))], [(1, .var 25 (cv25 r0)), (0, .var 25 (cv25 b))], 2, Fr.emp, [], 0⟩ (by kernel_rfl) ?_
  obtain ⟨⟨r0_4, r1_5⟩, hx_10, h⟩ := bsome h
  refine RW.one fokW (r_call trivial rfl (k33 r0 _ hx_10) rfl rfl (r_end ?_))
  refine RW.au fokW 5 [] ⟨[(1, .d (I n)), (2, .ptr 0 0), (5, .ptr 1 0), (6, .d (I r0_4)), (7, .d (I r1_5))], [(1, .var 25 (cv25 r0)), (0, .var 25 (cv25 b))], 2, Fr.emp, [], 0⟩ (by kernel_rfl) ?_
  refine RW.nil ?_
  refine hQ_9 _ ?_
  refine AW.seqK (fun K_11 hK_11 => ?_)
  refine AW.srwK (fun Q_12 hQ_12 => ?_)
  refine RW.au fokW 11 [29, 26] ⟨[(1, .d (I n)), (2, .ptr 0 0), (5, .ptr 1 0), (6, .d (I r0_4)), (7, .d (I r1_5)), (34, .d (.bool ((decide (r1_5 ≠ 0)) && ((decide (r1_5 ≠ 4)) || (decide (r0_4 ≠ 0))))))], [(1, .var 25 (cv25 r0)), (0, .var 25 (cv25 b))], 2, Fr.emp, [], 0⟩ (by kernel_rfl) ?_
  obtain ⟨v, hx_13, h⟩ := bsome h
  refine RW.cut fokW 8 (⟨[(1, .d (I n)), (2, .ptr 0 0), (5, .ptr 1 0), (6, .d (I r0_4)), (7, .d (I r1_5)), (42, .d (.bool v))], [(1, .var 25 (cv25 r0)), (0, .var 25 (cv25 b))], 2, Fr.emp, [], 0⟩) ?_ ?_
  ·refine r_split 34 rfl (fun hb_16 => ?_) (fun hb_16 => ?_)
   ·have h := ifT hb_16 hx_13
    refine RunC.auX 8 ⟨[(1, .d (I n)), (2, .ptr 0 0), (5, .ptr 1 0), (6, .d (I r0_4)), (7, .d (I r1_5)), (42, .d (.bool true))], [(1, .var 25 (cv25 r0)), (0, .var 25 (cv25 b))], 2, Fr.emp, [], 0⟩ (by kernel_rfl) ?_
    obtain rfl := Option.some.inj h
    refine RunC.finJ (Can.kp (by kernel_rfl))
   ·have h := ifF hb_16 hx_13
    refine RunC.auX 3 ⟨[(1, .d (I n)), (2, .ptr 0 0), (5, .ptr 1 0), (6, .d (I r0_4)), (7, .d (I r1_5)), (34, .d (.bool false)), (37, .d (.bool (decide (r1_5 = 0))))], [(1, .var 25 (cv25 r0)), (0, .var 25 (cv25 b))], 2, Fr.emp, [], 0⟩ (by kernel_rfl) ?_
    refine r_split 37 rfl (fun hb_14 => ?_) (fun hb_14 => ?_)
    ·have h := ifT hb_14 h
     refine RunC.auX 1 ⟨[(1, .d (I n)), (2, .ptr 0 0), (5, .ptr 1 0), (6, .d (I r0_4)), (7, .d (I r1_5)), (34, .d (.bool false)), (37, .d (.bool true)), (38, .d (I r0_4))], [(1, .var 25 (cv25 r0)), (0, .var 25 (cv25 b))], 2, Fr.emp, [], 0⟩ (by kernel_rfl) ?_
     obtain ⟨r0_1, hx_15, h⟩ := bsome h
     refine r_call rfl rfl (k43 r0_4 0 20 _ hx_15) rfl rfl ?_
     refine RunC.auX 3 ⟨[(1, .d (I n)), (2, .ptr 0 0), (5, .ptr 1 0), (6, .d (I r0_4)), (7, .d (I r1_5)), (42, .d (.bool (!r0_1)))], [(1, .var 25 (cv25 r0)), (0, .var 25 (cv25 b))], 2, Fr.emp, [], 0⟩ (by kernel_rfl) ?_
     obtain rfl := Option.some.inj h
     refine RunC.finJ (Can.kp (by kernel_rfl))
    ·have h := ifF hb_14 h
     refine RunC.auX 5 ⟨[(1, .d (I n)), (2, .ptr 0 0), (5, .ptr 1 0), (6, .d (I r0_4)), (7, .d (I r1_5)), (42, .d (.bool false))], [(1, .var 25 (cv25 r0)), (0, .var 25 (cv25 b))], 2, Fr.emp, [], 0⟩ (by kernel_rfl) ?_
     obtain rfl := Option.some.inj h
     refine RunC.finJ (Can.kp (by kernel_rfl))
  ·refine RW.nil ?_
   refine hQ_12 _ ?_
   refine AW.cond rfl (fun hb_17 => ?_) (fun hb_17 => ?_)
   ·have h := ifT hb_17 h
    refine AW.sa fokW [] ⟨[(4, .d (.bool false))], [], 2, Fr.emp, [], 0⟩ (by kernel_rfl) ?_
    obtain rfl := Option.some.inj h
    exact AW.ret (hR_0 _ (retX (.cons (.tmp rfl) .nil) (.refl _) rfl (by kernel_rfl) (by kernel_rfl)))
   ·have h := ifF hb_17 h
    refine AW.skip ?_
    refine hK_11 _ ?_
    obtain ⟨wider, hx_18, h⟩ := bsome h
    refine AW.jnSK (fun (wider : Int) => ⟨[(1, .d (I n)), (2, .ptr 0 0), (5, .ptr 1 0), (6, .d (I wider)), (7, .d (I r1_5))], [(1, .var 25 (cv25 r0)), (0, .var 25 (cv25 b))], 2, Fr.emp, [], 0⟩) (c := wider) (fun K_18 hK_18 => ?_) ?_
    ·have h := hx_18
     refine AW.sa fokW [] ⟨[(1, .d (I n)), (2, .ptr 0 0), (5, .ptr 1 0), (6, .d (I r0_4)), (7, .d (I r1_5)), (44, .d (.bool (decide (r1_5 ≠ 0))))], [(1, .var 25 (cv25 r0)), (0, .var 25 (cv25 b))], 2, Fr.emp, [], 0⟩ (by kernel_rfl) ?_
     refine AW.cond rfl (fun hb_19 => ?_) (fun hb_19 => ?_)
     ·have h := ifT hb_19 h
      refine AW.ra fokW [] ⟨[(1, .d (I n)), (2, .ptr 0 0), (5, .ptr 1 0), (6, .d (I 21)), (7, .d (I r1_5))], [(1, .var 25 (cv25 r0)), (0, .var 25 (cv25 b))], 2, Fr.emp, [], 0⟩ (by kernel_rfl) ?_
      obtain rfl := Option.some.inj h
      exact hK_18 _ (Can.kp (by kernel_rfl))
     ·have h := ifF hb_19 h
      refine AW.skip ?_
      obtain rfl := Option.some.inj h
      exact hK_18 _ (Can.kp (by kernel_rfl))
    ·refine AW.srwK (fun Q_20 hQ_20 => ?_)
     refine RW.au fokW 5 [] ⟨[(2, .ptr 0 0), (5, .ptr 1 0), (7, .d (I r1_5)), (45, .d (I wider)), (47, .d (I (wr (wider - 1)))), (48, .d (I wider)), (49, .d (I n))], [(1, .var 25 (cv25 r0)), (0, .var 25 (cv25 b))], 2, Fr.emp, [], 0⟩ (by kernel_rfl) ?_
     obtain ⟨r0_2, hx_21, h⟩ := bsome h
     refine RW.one fokW (r_call trivial rfl (k41 n 20 _ hx_21) rfl rfl (r_end ?_))
     refine RW.au fokW 3 [] ⟨[(2, .ptr 0 0), (5, .ptr 1 0), (7, .d (I r1_5)), (8, .own 2 (List.map e3 [wider, (wr (wider - 1)), (wr (wider + r0_2))]).length)], [(2, .row 3 1 (List.map e3 [wider, (wr (wider - 1)), (wr (wider + r0_2))])), (1, .var 25 (cv25 r0)), (0, .var 25 (cv25 b))], 3, Fr.emp, [], 0⟩ (by kernel_rfl) ?_
     refine RW.nil ?_
     refine hQ_20 _ ?_
     refine AW.seqK (fun K_22 hK_22 => ?_)
     refine AW.sa fokW [] ⟨[(2, .ptr 0 0), (5, .ptr 1 0), (7, .d (I r1_5)), (8, .own 2 (List.map e3 [wider, (wr (wider - 1)), (wr (wider + r0_2))]).length), (9, .d (I 0))], [(2, .row 3 1 (List.map e3 [wider, (wr (wider - 1)), (wr (wider + r0_2))])), (1, .var 25 (cv25 r0)), (0, .var 25 (cv25 b))], 3, Fr.emp, [], 0⟩ (by kernel_rfl) ?_
     refine AW.block ?_
     refine AW.slo (t := 8) rfl (fun hN_23 => ?_)
     rw [List.length_map] at hN_23
     obtain ⟨out_23, hx_23, hk_23⟩ := bsomeC h
     refine AW.evCK (fun (i : Int) (_ : Unit) => ⟨[(2, .ptr 0 0), (5, .ptr 1 0), (7, .d (I r1_5)), (8, .own 2 (List.map e3 [wider, (wr (wider - 1)), (wr (wider + r0_2))]).length), (9, .d (I i))], [(2, .row 3 1 (List.map e3 [wider, (wr (wider - 1)), (wr (wider + r0_2))])), (1, .var 25 (cv25 r0)), (0, .var 25 (cv25 b))], 3, Fr.emp, [], 0⟩) (g12_23 b r0 r1_5) hx_23 (Can.kp (by kernel_rfl)) (fun i p s_23 hi_23 hl_23 hp_23 c_23 h hb_23 K_23 hK_23 => ?_) (fun i s_23 hi_23 hl_23 hout => ?_)
     ·unfold g12_23 at h
      refine AW.seqK (fun K_24 hK_24 => ?_)
      refine AW.srwK (fun Q_25 hQ_25 => ?_)
      refine RW.au fokW 2 [] ⟨[(2, .ptr 0 0), (5, .ptr 1 0), (7, .d (I r1_5)), (8, .own 2 (List.map e3 [wider, (wr (wider - 1)), (wr (wider + r0_2))]).length), (9, .d (I i)), (53, .d (I i)), (54, .own 2 (List.map e3 [wider, (wr (wider - 1)), (wr (wider + r0_2))]).length)], [(2, .row 3 1 (List.map e3 [wider, (wr (wider - 1)), (wr (wider + r0_2))])), (1, .var 25 (cv25 r0)), (0, .var 25 (cv25 b))], 3, Fr.emp, [], 0⟩ (by kernel_rfl) ?_
      refine RW.one fokW (r_lenY trivial rfl lenm (r_end ?_))
      refine RW.au fokW 1 [] ⟨[(2, .ptr 0 0), (5, .ptr 1 0), (7, .d (I r1_5)), (8, .own 2 (List.map e3 [wider, (wr (wider - 1)), (wr (wider + r0_2))]).length), (9, .d (I i)), (56, .d (.bool (decide (i < ([wider, (wr (wider - 1)), (wr (wider + r0_2))].length : Int)))))], [(2, .row 3 1 (List.map e3 [wider, (wr (wider - 1)), (wr (wider + r0_2))])), (1, .var 25 (cv25 r0)), (0, .var 25 (cv25 b))], 3, Fr.emp, [], 0⟩ (by kernel_rfl) ?_
      refine RW.nil ?_
      refine hQ_25 _ ?_
      refine AW.cond rfl (fun hb_26 => ?_) (fun hb_26 => False.elim (by have := of_decide_eq_false hb_26; omega))
      refine AW.skip ?_
      refine hK_24 _ ?_
      refine AW.seqK (fun K_27 hK_27 => ?_)
      refine AW.block ?_
      refine AW.sa fokW [] ⟨[(2, .ptr 0 0), (5, .ptr 1 0), (7, .d (I r1_5)), (8, .own 2 (List.map e3 [wider, (wr (wider - 1)), (wr (wider + r0_2))]).length), (9, .d (I i)), (10, .ptr 3 0)], [(3, .var 25 (cv25 r0)), (2, .row 3 1 (List.map e3 [wider, (wr (wider - 1)), (wr (wider + r0_2))])), (1, .var 25 (cv25 r0)), (0, .var 25 (cv25 b))], 4, Fr.emp, [], 0⟩ (by kernel_rfl) ?_
      refine AW.sdrwK fokW (fun Q_28 hQ_28 => ?_)
      refine RunC.auX 4 ⟨[(2, .ptr 0 0), (5, .ptr 1 0), (7, .d (I r1_5)), (8, .own 2 (List.map e3 [wider, (wr (wider - 1)), (wr (wider + r0_2))]).length), (9, .d (I i)), (10, .ptr 3 0), (61, .d (I b.Front)), (62, .own 2 (List.map e3 [wider, (wr (wider - 1)), (wr (wider + r0_2))]).length), (63, .d (I i))], [(3, .var 25 (cv25 r0)), (2, .row 3 1 (List.map e3 [wider, (wr (wider - 1)), (wr (wider + r0_2))])), (1, .var 25 (cv25 r0)), (0, .var 25 (cv25 b))], 4, Fr.emp, [], 0⟩ (by kernel_rfl) ?_
      refine r_iaO trivial rfl rfl rfl hi_23 (ix_lt hp_23) rfl ?_
      refine r_loadE trivial rfl rfl rfl (mapget (f := e3) hp_23) rfl ?_
      refine RunC.auX 5 ⟨[(2, .ptr 0 0), (5, .ptr 1 0), (7, .d (I r1_5)), (8, .own 2 (List.map e3 [wider, (wr (wider - 1)), (wr (wider + r0_2))]).length), (9, .d (I i)), (10, .ptr 3 0), (66, .d (I (wr (b.Front + p)))), (68, .d (I b.Back)), (69, .own 2 (List.map e3 [wider, (wr (wider - 1)), (wr (wider + r0_2))]).length), (70, .d (I i))], [(3, .var 25 (cv25 r0)), (2, .row 3 1 (List.map e3 [wider, (wr (wider - 1)), (wr (wider + r0_2))])), (1, .var 25 (cv25 r0)), (0, .var 25 (cv25 b))], 4, Fr.emp, [], 0⟩ (by kernel_rfl) ?_
      refine r_iaO trivial rfl rfl rfl hi_23 (ix_lt hp_23) rfl ?_
      refine r_loadE trivial rfl rfl rfl (mapget (f := e3) hp_23) rfl ?_
      refine RunC.auX 5 ⟨[(2, .ptr 0 0), (5, .ptr 1 0), (7, .d (I r1_5)), (8, .own 2 (List.map e3 [wider, (wr (wider - 1)), (wr (wider + r0_2))]).length), (9, .d (I i)), (10, .ptr 3 0)], [(3, .var 25 [.d (I r0.Kind), .d (I (wr (b.Front + p))), .d (I (wr (b.Back + p))), .d (I r0.Radius), .d (.sl 4 (List.map e70 r0.Parts)), .d (I r0.Along), .d (I r0.High), .d (I r0.Lean_), .d (I r0.Limit), .d (.sl 3 (List.map e65 r0.Trials))]), (2, .row 3 1 (List.map e3 [wider, (wr (wider - 1)), (wr (wider + r0_2))])), (1, .var 25 (cv25 r0)), (0, .var 25 (cv25 b))], 4, Fr.emp, [], 0⟩ (by kernel_rfl) ?_
      refine RunC.fin ⟨[(2, .ptr 0 0), (5, .ptr 1 0), (7, .d (I r1_5)), (8, .own 2 (List.map e3 [wider, (wr (wider - 1)), (wr (wider + r0_2))]).length), (9, .d (I i)), (10, .ptr 3 0)], [(3, .var 25 [.d (I r0.Kind), .d (I (wr (b.Front + p))), .d (I (wr (b.Back + p))), .d (I r0.Radius), .d (.sl 4 (List.map e70 r0.Parts)), .d (I r0.Along), .d (I r0.High), .d (I r0.Lean_), .d (I r0.Limit), .d (.sl 3 (List.map e65 r0.Trials))]), (2, .row 3 1 (List.map e3 [wider, (wr (wider - 1)), (wr (wider + r0_2))])), (1, .var 25 (cv25 r0)), (0, .var 25 (cv25 b))], 4, Fr.emp, [], 0⟩ (by kernel_rfl) (by kernel_rfl) ?_
      refine hQ_28 _ ?_
      refine AW.seqK (fun K_29 hK_29 => ?_)
      refine AW.srwK (fun Q_30 hQ_30 => ?_)
      refine RW.au fokW 2 [] ⟨[(2, .ptr 0 0), (5, .ptr 1 0), (7, .d (I r1_5)), (8, .own 2 (List.map e3 [wider, (wr (wider - 1)), (wr (wider + r0_2))]).length), (9, .d (I i)), (10, .ptr 3 0), (76, .own 2 (List.map e3 [wider, (wr (wider - 1)), (wr (wider + r0_2))]).length), (77, .d (I i))], [(3, .var 25 [.d (I r0.Kind), .d (I (wr (b.Front + p))), .d (I (wr (b.Back + p))), .d (I r0.Radius), .d (.sl 4 (List.map e70 r0.Parts)), .d (I r0.Along), .d (I r0.High), .d (I r0.Lean_), .d (I r0.Limit), .d (.sl 3 (List.map e65 r0.Trials))]), (2, .row 3 1 (List.map e3 [wider, (wr (wider - 1)), (wr (wider + r0_2))])), (1, .var 25 (cv25 r0)), (0, .var 25 (cv25 b))], 4, Fr.emp, [], 0⟩ (by kernel_rfl) ?_
      refine RW.one fokW (r_iaO trivial rfl rfl rfl hi_23 (ix_lt hp_23) rfl (r_end ?_))
      refine RW.one fokW (r_loadE trivial rfl rfl rfl (mapget (f := e3) hp_23) rfl (r_end ?_))
      refine RW.au fokW 19 [84, 81, 89, 94] ⟨[(2, .ptr 0 0), (5, .ptr 1 0), (7, .d (I r1_5)), (8, .own 2 (List.map e3 [wider, (wr (wider - 1)), (wr (wider + r0_2))]).length), (9, .d (I i)), (10, .ptr 3 0), (98, .d (.bool ((((decide (p < 0)) || ((decide (r1_5 ≠ 0)) && (decide (i ≠ 1)))) || (decide (60 < (wr (b.Front + p))))) || (decide (60 < (wr (b.Back + p)))))))], [(3, .var 25 [.d (I r0.Kind), .d (I (wr (b.Front + p))), .d (I (wr (b.Back + p))), .d (I r0.Radius), .d (.sl 4 (List.map e70 r0.Parts)), .d (I r0.Along), .d (I r0.High), .d (I r0.Lean_), .d (I r0.Limit), .d (.sl 3 (List.map e65 r0.Trials))]), (2, .row 3 1 (List.map e3 [wider, (wr (wider - 1)), (wr (wider + r0_2))])), (1, .var 25 (cv25 r0)), (0, .var 25 (cv25 b))], 4, Fr.emp, [], 0⟩ (by kernel_rfl) ?_
      refine RW.nil ?_
      refine hQ_30 _ ?_
      refine AW.cond rfl (fun hb_31 => ?_) (fun hb_31 => ?_)
      ·have h := ifT hb_31 h
       refine AW.exit ?_
       refine hK_27 _ ?_
       refine AW.ra fokW [] ⟨[(2, .ptr 0 0), (5, .ptr 1 0), (7, .d (I r1_5)), (8, .own 2 (List.map e3 [wider, (wr (wider - 1)), (wr (wider + r0_2))]).length), (9, .d (I (wr (i + 1))))], [(2, .row 3 1 (List.map e3 [wider, (wr (wider - 1)), (wr (wider + r0_2))])), (1, .var 25 (cv25 r0)), (0, .var 25 (cv25 b))], 4, Fr.emp, [], 0⟩ (by kernel_rfl) ?_
       obtain rfl := Option.some.inj h
       have ew : wr (i + 1) = i + 1 := inext (N := ([wider, (wr (wider - 1)), (wr (wider + r0_2))].length : Int)) (by omega) (by omega) (by omega)
       rw [ew]
       exact hK_23 _ _ rfl (Can.kp (by kernel_rfl))
      ·have h := ifF hb_31 h
       refine AW.skip ?_
       refine hK_29 _ ?_
       refine AW.srwK (fun Q_32 hQ_32 => ?_)
       refine RW.au fokW 1 [] ⟨[(2, .ptr 0 0), (5, .ptr 1 0), (7, .d (I r1_5)), (8, .own 2 (List.map e3 [wider, (wr (wider - 1)), (wr (wider + r0_2))]).length), (9, .d (I i)), (100, .agg [.d (I r0.Kind), .d (I (wr (b.Front + p))), .d (I (wr (b.Back + p))), .d (I r0.Radius), .d (.sl 4 (List.map e70 r0.Parts)), .d (I r0.Along), .d (I r0.High), .d (I r0.Lean_), .d (I r0.Limit), .d (.sl 3 (List.map e65 r0.Trials))])], [(2, .row 3 1 (List.map e3 [wider, (wr (wider - 1)), (wr (wider + r0_2))])), (1, .var 25 (cv25 r0)), (0, .var 25 (cv25 b))], 4, Fr.emp, [], 0⟩ (by kernel_rfl) ?_
       obtain ⟨⟨r0_4_1, r1_5_1⟩, hx_33, h⟩ := bsome h
       refine RW.one fokW (r_call trivial rfl (k27 (StandBook.mk r0.Kind (wr (b.Front + p)) (wr (b.Back + p)) r0.Radius r0.Parts r0.Along r0.High r0.Lean_ r0.Limit r0.Trials) _ hx_33) rfl rfl (r_end ?_))
       refine RW.au fokW 5 [] ⟨[(2, .ptr 0 0), (5, .ptr 1 0), (7, .d (I r1_5)), (8, .own 2 (List.map e3 [wider, (wr (wider - 1)), (wr (wider + r0_2))]).length), (9, .d (I i)), (12, .d (I r1_5_1))], [(2, .row 3 1 (List.map e3 [wider, (wr (wider - 1)), (wr (wider + r0_2))])), (1, .var 25 (cv25 r0)), (0, .var 25 (cv25 b))], 4, Fr.emp, [], 0⟩ (by kernel_rfl) ?_
       refine RW.nil ?_
       refine hQ_32 _ ?_
       refine AW.sa fokW [112, 109] ⟨[(2, .ptr 0 0), (5, .ptr 1 0), (7, .d (I r1_5)), (8, .own 2 (List.map e3 [wider, (wr (wider - 1)), (wr (wider + r0_2))]).length), (9, .d (I i)), (116, .d (.bool ((true != ((decide (r1_5_1 = 4)) == (decide (i ≠ 1)))) || ((decide (r1_5_1 ≠ 0)) && (decide (r1_5_1 ≠ 4))))))], [(2, .row 3 1 (List.map e3 [wider, (wr (wider - 1)), (wr (wider + r0_2))])), (1, .var 25 (cv25 r0)), (0, .var 25 (cv25 b))], 4, Fr.emp, [], 0⟩ (by kernel_rfl) ?_
       refine AW.cond rfl (fun hb_34 => ?_) (fun hb_34 => ?_)
       ·have h := ifT hb_34 h
        refine AW.sa fokW [] ⟨[(4, .d (.bool false))], [], 4, Fr.emp, [], 0⟩ (by kernel_rfl) ?_
        obtain rfl := Option.some.inj h
        have e_1 := hb_23 _ rfl
        subst e_1
        obtain rfl := Aft.bk hk_23
        exact AW.ret (hR_0 _ (retX (.cons (.tmp rfl) .nil) (.refl _) rfl (by kernel_rfl) (by kernel_rfl)))
       ·have h := ifF hb_34 h
        refine AW.skip ?_
        refine hK_27 _ ?_
        refine AW.ra fokW [] ⟨[(2, .ptr 0 0), (5, .ptr 1 0), (7, .d (I r1_5)), (8, .own 2 (List.map e3 [wider, (wr (wider - 1)), (wr (wider + r0_2))]).length), (9, .d (I (wr (i + 1))))], [(2, .row 3 1 (List.map e3 [wider, (wr (wider - 1)), (wr (wider + r0_2))])), (1, .var 25 (cv25 r0)), (0, .var 25 (cv25 b))], 4, Fr.emp, [], 0⟩ (by kernel_rfl) ?_
        obtain rfl := Option.some.inj h
        have ew : wr (i + 1) = i + 1 := inext (N := ([wider, (wr (wider - 1)), (wr (wider + r0_2))].length : Int)) (by omega) (by omega) (by omega)
        rw [ew]
        exact hK_23 _ _ rfl (Can.kp (by kernel_rfl))
     ·subst hout
      have h := Aft.nx hk_23
      refine AW.seqK (fun K_35 hK_35 => ?_)
      refine AW.srwK (fun Q_36 hQ_36 => ?_)
      refine RW.au fokW 2 [] ⟨[(2, .ptr 0 0), (5, .ptr 1 0), (7, .d (I r1_5)), (8, .own 2 (List.map e3 [wider, (wr (wider - 1)), (wr (wider + r0_2))]).length), (9, .d (I i)), (53, .d (I i)), (54, .own 2 (List.map e3 [wider, (wr (wider - 1)), (wr (wider + r0_2))]).length)], [(2, .row 3 1 (List.map e3 [wider, (wr (wider - 1)), (wr (wider + r0_2))])), (1, .var 25 (cv25 r0)), (0, .var 25 (cv25 b))], 3, Fr.emp, [], 0⟩ (by kernel_rfl) ?_
      refine RW.one fokW (r_lenY trivial rfl lenm (r_end ?_))
      refine RW.au fokW 1 [] ⟨[(2, .ptr 0 0), (5, .ptr 1 0), (7, .d (I r1_5)), (8, .own 2 (List.map e3 [wider, (wr (wider - 1)), (wr (wider + r0_2))]).length), (9, .d (I i)), (56, .d (.bool (decide (i < ([wider, (wr (wider - 1)), (wr (wider + r0_2))].length : Int)))))], [(2, .row 3 1 (List.map e3 [wider, (wr (wider - 1)), (wr (wider + r0_2))])), (1, .var 25 (cv25 r0)), (0, .var 25 (cv25 b))], 3, Fr.emp, [], 0⟩ (by kernel_rfl) ?_
      refine RW.nil ?_
      refine hQ_36 _ ?_
      refine AW.cond rfl (fun hb_37 => False.elim (by have := of_decide_eq_true hb_37; omega)) (fun hb_37 => ?_)
      refine AW.exit ?_
      refine hK_22 _ ?_
      refine AW.srwK (fun Q_38 hQ_38 => ?_)
      obtain ⟨t2_1, hx_39, h⟩ := bsome h
      refine RW.one fokW (r_call trivial rfl (k24 _ hx_39) rfl rfl (r_end ?_))
      refine RW.au fokW 1 [] ⟨[(4, .d (.bool t2_1))], [], 3, Fr.emp, [], 0⟩ (by kernel_rfl) ?_
      refine RW.nil ?_
      refine hQ_38 _ ?_
      obtain rfl := Option.some.inj h
      exact AW.ret (hR_0 _ (retX (.cons (.tmp rfl) .nil) (.refl _) rfl (by kernel_rfl) (by kernel_rfl)))
end Go.Proofs.Tz
