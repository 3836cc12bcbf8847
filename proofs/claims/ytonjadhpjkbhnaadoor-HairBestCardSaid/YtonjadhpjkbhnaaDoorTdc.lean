/- Told functions, and that the program does so, part 3. Conditions: none. -/
import Derived.Test.YtonjadhpjkbhnaaDoorTdb
set_option linter.unusedVariables false
set_option linter.unusedSimpArgs false
namespace Go.Proofs.Th
open Go Go.Abs Go.Proofs
def g35_18 (b : HairBook) : (Bool × Int) → Option (Ctl (Bool × Int) (Bool)) := fun  (ok2, i) => (bif ok2 then (some (decide (i < (b.Hanks.length : Int)))) else (some false)).bind fun v5 => bif v5 then ((ixL b.Hanks i).bind fun p => (g64 p.Weight 1 60).bind fun r0_3 => (bif r0_3 then ((g64 p.Shade 0 20).bind fun r0_4 => some r0_4) else (some false)).bind fun v6 => some (.next (v6, (wr (i + 1))))) else (some (.brk ok2))
def g35_33 (b : HairBook) : (Bool × Int) → Option (Ctl (Bool × Int) (Bool)) := fun  (ok5, i1) => (bif ok5 then (some (decide (i1 < (b.Horses.length : Int)))) else (some false)).bind fun v7 => bif v7 then ((ixL b.Horses i1).bind fun p1 => (g50 p1.Mane 1 30).bind fun r0_5 => (bif r0_5 then ((g50 p1.Tail 1 30).bind fun r0_6 => some r0_6) else (some false)).bind fun v8 => some (.next (v8, (wr (i1 + 1))))) else (some (.brk ok5))
def g35 (b : HairBook) : Option Bool := (g17 b).bind fun r0_9 => (bif (decide (r0_9 = 0)) then (some (decide ((b.Hanks.length : Int) ≤ 4))) else (some false)).bind fun v => (bif v then (some (decide ((b.Horses.length : Int) ≤ 3))) else (some false)).bind fun v1 => (bif v1 then ((g50 b.Dark 0 4).bind fun r0 => some r0) else (some false)).bind fun v2 => (bif v2 then ((g50 b.Near 0 3).bind fun r0_1 => some r0_1) else (some false)).bind fun v3 => (bif v3 then ((g50 b.Match 0 3).bind fun r0_2 => some r0_2) else (some false)).bind fun v4 => ((whileC (g35_18 b) 1000 (v4, 0)).bind fun ok1 => some ok1).bind fun ok => ((whileC (g35_33 b) 1000 (ok, 0)).bind fun ok4 => some ok4).bind fun ok3 => some ok3
theorem k35 (b : HairBook) (r : Bool) (h : g35 b = some r) : SCall Tryd.prog Gs 35 [.agg (cv25 b)] [] 0 Fr.emp (.d (.bool r)) [] 0 Fr.emp := by
 unfold g35 at h
 refine SCall.mkK Tryd.func35 c35 rfl rfl (by kernel_rfl) (fun Q_0 hR_0 hN_0 => ?_)
 refine AW.sa fokW [] ⟨[(1, .ptr 0 0)], [(0, .var 25 (cv25 b))], 1, Fr.emp, [], 0⟩ (by kernel_rfl) ?_
 refine AW.srwK (fun Q_1 hQ_1 => ?_)
 refine RW.au fokW 1 [] ⟨[(1, .ptr 0 0), (7, .agg (cv25 b))], [(0, .var 25 (cv25 b))], 1, Fr.emp, [], 0⟩ (by kernel_rfl) ?_
 obtain ⟨r0_9, hx_2, h⟩ := bsome h
 refine RW.one fokW (r_call trivial rfl (k17 b _ hx_2) rfl rfl (r_end ?_))
 refine RW.au fokW 2 [] ⟨[(1, .ptr 0 0), (10, .d (.bool (decide (r0_9 = 0))))], [(0, .var 25 (cv25 b))], 1, Fr.emp, [], 0⟩ (by kernel_rfl) ?_
 obtain ⟨v, hx_3, h⟩ := bsome h
 refine RW.cut fokW 5 (⟨[(1, .ptr 0 0), (15, .d (.bool v))], [(0, .var 25 (cv25 b))], 1, Fr.emp, [], 0⟩) ?_ ?_
 ·refine r_split 10 rfl (fun hb_4 => ?_) (fun hb_4 => ?_)
  ·have h := ifT hb_4 hx_3
   refine RunC.auX 2 ⟨[(1, .ptr 0 0), (10, .d (.bool true)), (12, .d (.sl 4 (List.map e58 b.Hanks)))], [(0, .var 25 (cv25 b))], 1, Fr.emp, [], 0⟩ (by kernel_rfl) ?_
   refine r_lenX rfl rfl lenm ?_
   refine RunC.auX 2 ⟨[(1, .ptr 0 0), (15, .d (.bool (decide ((b.Hanks.length : Int) ≤ 4))))], [(0, .var 25 (cv25 b))], 1, Fr.emp, [], 0⟩ (by kernel_rfl) ?_
   obtain rfl := Option.some.inj h
   refine RunC.finJ (Can.kp (by kernel_rfl))
  ·have h := ifF hb_4 hx_3
   refine RunC.auX 5 ⟨[(1, .ptr 0 0), (15, .d (.bool false))], [(0, .var 25 (cv25 b))], 1, Fr.emp, [], 0⟩ (by kernel_rfl) ?_
   obtain rfl := Option.some.inj h
   refine RunC.finJ (Can.kp (by kernel_rfl))
 ·refine RW.au fokW 1 [] ⟨[(1, .ptr 0 0), (16, .d (.bool v))], [(0, .var 25 (cv25 b))], 1, Fr.emp, [], 0⟩ (by kernel_rfl) ?_
  obtain ⟨v1, hx_5, h⟩ := bsome h
  refine RW.cut fokW 5 (⟨[(1, .ptr 0 0), (21, .d (.bool v1))], [(0, .var 25 (cv25 b))], 1, Fr.emp, [], 0⟩) ?_ ?_
  ·refine r_split 16 rfl (fun hb_6 => ?_) (fun hb_6 => ?_)
   ·have h := ifT hb_6 hx_5
    refine RunC.auX 2 ⟨[(1, .ptr 0 0), (16, .d (.bool true)), (18, .d (.sl 3 (List.map e69 b.Horses)))], [(0, .var 25 (cv25 b))], 1, Fr.emp, [], 0⟩ (by kernel_rfl) ?_
    refine r_lenX rfl rfl lenm ?_
    refine RunC.auX 2 ⟨[(1, .ptr 0 0), (21, .d (.bool (decide ((b.Horses.length : Int) ≤ 3))))], [(0, .var 25 (cv25 b))], 1, Fr.emp, [], 0⟩ (by kernel_rfl) ?_
    obtain rfl := Option.some.inj h
    refine RunC.finJ (Can.kp (by kernel_rfl))
   ·have h := ifF hb_6 hx_5
    refine RunC.auX 5 ⟨[(1, .ptr 0 0), (21, .d (.bool false))], [(0, .var 25 (cv25 b))], 1, Fr.emp, [], 0⟩ (by kernel_rfl) ?_
    obtain rfl := Option.some.inj h
    refine RunC.finJ (Can.kp (by kernel_rfl))
  ·refine RW.au fokW 1 [] ⟨[(1, .ptr 0 0), (22, .d (.bool v1))], [(0, .var 25 (cv25 b))], 1, Fr.emp, [], 0⟩ (by kernel_rfl) ?_
   obtain ⟨v2, hx_7, h⟩ := bsome h
   refine RW.cut fokW 4 (⟨[(1, .ptr 0 0), (26, .d (.bool v2))], [(0, .var 25 (cv25 b))], 1, Fr.emp, [], 0⟩) ?_ ?_
   ·refine r_split 22 rfl (fun hb_9 => ?_) (fun hb_9 => ?_)
    ·have h := ifT hb_9 hx_7
     refine RunC.auX 2 ⟨[(1, .ptr 0 0), (22, .d (.bool true)), (24, .d (I b.Dark))], [(0, .var 25 (cv25 b))], 1, Fr.emp, [], 0⟩ (by kernel_rfl) ?_
     obtain ⟨r0, hx_8, h⟩ := bsome h
     refine r_call rfl rfl (k50 b.Dark 0 4 _ hx_8) rfl rfl ?_
     refine RunC.auX 1 ⟨[(1, .ptr 0 0), (26, .d (.bool r0))], [(0, .var 25 (cv25 b))], 1, Fr.emp, [], 0⟩ (by kernel_rfl) ?_
     obtain rfl := Option.some.inj h
     refine RunC.finJ (Can.kp (by kernel_rfl))
    ·have h := ifF hb_9 hx_7
     refine RunC.auX 4 ⟨[(1, .ptr 0 0), (26, .d (.bool false))], [(0, .var 25 (cv25 b))], 1, Fr.emp, [], 0⟩ (by kernel_rfl) ?_
     obtain rfl := Option.some.inj h
     refine RunC.finJ (Can.kp (by kernel_rfl))
   ·refine RW.au fokW 1 [] ⟨[(1, .ptr 0 0), (27, .d (.bool v2))], [(0, .var 25 (cv25 b))], 1, Fr.emp, [], 0⟩ (by kernel_rfl) ?_
    obtain ⟨v3, hx_10, h⟩ := bsome h
    refine RW.cut fokW 4 (⟨[(1, .ptr 0 0), (31, .d (.bool v3))], [(0, .var 25 (cv25 b))], 1, Fr.emp, [], 0⟩) ?_ ?_
    ·refine r_split 27 rfl (fun hb_12 => ?_) (fun hb_12 => ?_)
     ·have h := ifT hb_12 hx_10
      refine RunC.auX 2 ⟨[(1, .ptr 0 0), (27, .d (.bool true)), (29, .d (I b.Near))], [(0, .var 25 (cv25 b))], 1, Fr.emp, [], 0⟩ (by kernel_rfl) ?_
      obtain ⟨r0_1, hx_11, h⟩ := bsome h
      refine r_call rfl rfl (k50 b.Near 0 3 _ hx_11) rfl rfl ?_
      refine RunC.auX 1 ⟨[(1, .ptr 0 0), (31, .d (.bool r0_1))], [(0, .var 25 (cv25 b))], 1, Fr.emp, [], 0⟩ (by kernel_rfl) ?_
      obtain rfl := Option.some.inj h
      refine RunC.finJ (Can.kp (by kernel_rfl))
     ·have h := ifF hb_12 hx_10
      refine RunC.auX 4 ⟨[(1, .ptr 0 0), (31, .d (.bool false))], [(0, .var 25 (cv25 b))], 1, Fr.emp, [], 0⟩ (by kernel_rfl) ?_
      obtain rfl := Option.some.inj h
      refine RunC.finJ (Can.kp (by kernel_rfl))
    ·refine RW.au fokW 1 [] ⟨[(1, .ptr 0 0), (32, .d (.bool v3))], [(0, .var 25 (cv25 b))], 1, Fr.emp, [], 0⟩ (by kernel_rfl) ?_
     obtain ⟨v4, hx_13, h⟩ := bsome h
     refine RW.cut fokW 4 (⟨[(1, .ptr 0 0), (36, .d (.bool v4))], [(0, .var 25 (cv25 b))], 1, Fr.emp, [], 0⟩) ?_ ?_
     ·refine r_split 32 rfl (fun hb_15 => ?_) (fun hb_15 => ?_)
      ·have h := ifT hb_15 hx_13
       refine RunC.auX 2 ⟨[(1, .ptr 0 0), (32, .d (.bool true)), (34, .d (I b.Match))], [(0, .var 25 (cv25 b))], 1, Fr.emp, [], 0⟩ (by kernel_rfl) ?_
       obtain ⟨r0_2, hx_14, h⟩ := bsome h
       refine r_call rfl rfl (k50 b.Match 0 3 _ hx_14) rfl rfl ?_
       refine RunC.auX 1 ⟨[(1, .ptr 0 0), (36, .d (.bool r0_2))], [(0, .var 25 (cv25 b))], 1, Fr.emp, [], 0⟩ (by kernel_rfl) ?_
       obtain rfl := Option.some.inj h
       refine RunC.finJ (Can.kp (by kernel_rfl))
      ·have h := ifF hb_15 hx_13
       refine RunC.auX 4 ⟨[(1, .ptr 0 0), (36, .d (.bool false))], [(0, .var 25 (cv25 b))], 1, Fr.emp, [], 0⟩ (by kernel_rfl) ?_
       obtain rfl := Option.some.inj h
       refine RunC.finJ (Can.kp (by kernel_rfl))
     ·refine RW.au fokW 1 [] ⟨[(1, .ptr 0 0), (3, .d (.bool v4))], [(0, .var 25 (cv25 b))], 1, Fr.emp, [], 0⟩ (by kernel_rfl) ?_
      refine RW.nil ?_
      refine hQ_1 _ ?_
      obtain ⟨ok, hx_16, h⟩ := bsome h
      refine AW.jnSK (fun (ok : Bool) => ⟨[(1, .ptr 0 0), (3, .d (.bool ok))], [(0, .var 25 (cv25 b))], 1, Fr.emp, [], 0⟩) (c := ok) (fun K_16 hK_16 => ?_) ?_
      ·have h := hx_16
       refine AW.sa fokW [] ⟨[(1, .ptr 0 0), (3, .d (.bool v4)), (4, .d (I 0))], [(0, .var 25 (cv25 b))], 1, Fr.emp, [], 0⟩ (by kernel_rfl) ?_
       obtain ⟨ok1, hx_17, h⟩ := bsome h
       refine AW.jqSK (fun (ok1 : Bool) => ⟨[(1, .ptr 0 0), (3, .d (.bool ok1))], [(0, .var 25 (cv25 b))], 1, Fr.emp, [], 0⟩) (c := ok1) (fun K_17 hK_17 => ?_) ?_
       ·have h := hx_17
        refine AW.block ?_
        refine AW.whK (fun (⟨ok2, i⟩ : Bool × Int) => ⟨[(1, .ptr 0 0), (3, .d (.bool ok2)), (4, .d (I i))], [(0, .var 25 (cv25 b))], 1, Fr.emp, [], 0⟩) (g35_18 b) h (Can.kp (by kernel_rfl)) (fun s_18 c_18 h hb_18 K_18 hK_18 => ?_)
        obtain ⟨ok2, i⟩ := s_18
        unfold g35_18 at h
        refine AW.seqK (fun K_19 hK_19 => ?_)
        refine AW.srwK (fun Q_20 hQ_20 => ?_)
        refine RW.au fokW 2 [] ⟨[(1, .ptr 0 0), (3, .d (.bool ok2)), (4, .d (I i)), (38, .d (.bool ok2))], [(0, .var 25 (cv25 b))], 1, Fr.emp, [], 0⟩ (by kernel_rfl) ?_
        obtain ⟨v5, hx_21, h⟩ := bsome h
        refine RW.cut fokW 6 (⟨[(1, .ptr 0 0), (3, .d (.bool ok2)), (4, .d (I i)), (44, .d (.bool v5))], [(0, .var 25 (cv25 b))], 1, Fr.emp, [], 0⟩) ?_ ?_
        ·refine r_split 38 rfl (fun hb_22 => ?_) (fun hb_22 => ?_)
         ·have h := ifT hb_22 hx_21
          refine RunC.auX 3 ⟨[(1, .ptr 0 0), (3, .d (.bool ok2)), (4, .d (I i)), (38, .d (.bool true)), (39, .d (I i)), (41, .d (.sl 4 (List.map e58 b.Hanks)))], [(0, .var 25 (cv25 b))], 1, Fr.emp, [], 0⟩ (by kernel_rfl) ?_
          refine r_lenX rfl rfl lenm ?_
          refine RunC.auX 2 ⟨[(1, .ptr 0 0), (3, .d (.bool ok2)), (4, .d (I i)), (44, .d (.bool (decide (i < (b.Hanks.length : Int)))))], [(0, .var 25 (cv25 b))], 1, Fr.emp, [], 0⟩ (by kernel_rfl) ?_
          obtain rfl := Option.some.inj h
          refine RunC.finJ (Can.kp (by kernel_rfl))
         ·have h := ifF hb_22 hx_21
          refine RunC.auX 6 ⟨[(1, .ptr 0 0), (3, .d (.bool ok2)), (4, .d (I i)), (44, .d (.bool false))], [(0, .var 25 (cv25 b))], 1, Fr.emp, [], 0⟩ (by kernel_rfl) ?_
          obtain rfl := Option.some.inj h
          refine RunC.finJ (Can.kp (by kernel_rfl))
        ·refine RW.nil ?_
         refine hQ_20 _ ?_
         refine AW.cond rfl (fun hb_23 => ?_) (fun hb_23 => ?_)
         ·have h := ifT hb_23 h
          refine AW.skip ?_
          refine hK_19 _ ?_
          refine AW.seqK (fun K_24 hK_24 => ?_)
          refine AW.block ?_
          refine AW.rw ?_
          refine RW.au fokW 3 [] ⟨[(1, .ptr 0 0), (4, .d (I i)), (48, .d (.sl 4 (List.map e58 b.Hanks))), (49, .d (I i))], [(0, .var 25 (cv25 b))], 1, Fr.emp, [], 0⟩ (by kernel_rfl) ?_
          obtain ⟨p, hv_26, h⟩ := bsome h
          refine RW.one fokW (r_iaD trivial rfl rfl (ixL_ok hv_26).1 (row := e58 p) (mapget (ixL_ok hv_26).2) (r_end ?_))
          refine RW.au fokW 2 [] ⟨[(1, .ptr 0 0), (4, .d (I i)), (52, .agg [.d (I p.Weight.Low), .d (I p.Weight.High)])], [(0, .var 25 (cv25 b))], 1, Fr.emp, [], 0⟩ (by kernel_rfl) ?_
          obtain ⟨r0_3, hx_27, h⟩ := bsome h
          refine RW.one fokW (r_call trivial rfl (k64 p.Weight 1 60 _ hx_27) rfl rfl (r_end ?_))
          refine RW.au fokW 1 [] ⟨[(1, .ptr 0 0), (4, .d (I i)), (54, .d (.bool r0_3))], [(0, .var 25 (cv25 b))], 1, Fr.emp, [], 0⟩ (by kernel_rfl) ?_
          obtain ⟨v6, hx_28, h⟩ := bsome h
          refine RW.cut fokW 8 (⟨[(1, .ptr 0 0), (4, .d (I i)), (62, .d (.bool v6))], [(0, .var 25 (cv25 b))], 1, Fr.emp, [], 0⟩) ?_ ?_
          ·refine r_split 54 rfl (fun hb_30 => ?_) (fun hb_30 => ?_)
           ·have h := ifT hb_30 hx_28
            refine RunC.auX 3 ⟨[(1, .ptr 0 0), (4, .d (I i)), (54, .d (.bool true)), (56, .d (.sl 4 (List.map e58 b.Hanks))), (57, .d (I i))], [(0, .var 25 (cv25 b))], 1, Fr.emp, [], 0⟩ (by kernel_rfl) ?_
            refine r_iaD rfl rfl rfl (ixL_ok hv_26).1 (row := e58 p) (mapget (ixL_ok hv_26).2) ?_
            refine RunC.auX 2 ⟨[(1, .ptr 0 0), (4, .d (I i)), (54, .d (.bool true)), (60, .agg [.d (I p.Shade.Low), .d (I p.Shade.High)])], [(0, .var 25 (cv25 b))], 1, Fr.emp, [], 0⟩ (by kernel_rfl) ?_
            obtain ⟨r0_4, hx_29, h⟩ := bsome h
            refine r_call rfl rfl (k64 p.Shade 0 20 _ hx_29) rfl rfl ?_
            refine RunC.auX 1 ⟨[(1, .ptr 0 0), (4, .d (I i)), (62, .d (.bool r0_4))], [(0, .var 25 (cv25 b))], 1, Fr.emp, [], 0⟩ (by kernel_rfl) ?_
            obtain rfl := Option.some.inj h
            refine RunC.finJ (Can.kp (by kernel_rfl))
           ·have h := ifF hb_30 hx_28
            refine RunC.auX 8 ⟨[(1, .ptr 0 0), (4, .d (I i)), (62, .d (.bool false))], [(0, .var 25 (cv25 b))], 1, Fr.emp, [], 0⟩ (by kernel_rfl) ?_
            obtain rfl := Option.some.inj h
            refine RunC.finJ (Can.kp (by kernel_rfl))
          ·refine RW.au fokW 1 [] ⟨[(1, .ptr 0 0), (3, .d (.bool v6)), (4, .d (I i))], [(0, .var 25 (cv25 b))], 1, Fr.emp, [], 0⟩ (by kernel_rfl) ?_
           refine RW.nil ?_
           refine hK_24 _ ?_
           refine AW.ra fokW [] ⟨[(1, .ptr 0 0), (3, .d (.bool v6)), (4, .d (I (wr (i + 1))))], [(0, .var 25 (cv25 b))], 1, Fr.emp, [], 0⟩ (by kernel_rfl) ?_
           obtain rfl := Option.some.inj h
           exact hK_18 _ _ rfl (Can.kp (by kernel_rfl))
         ·have h := ifF hb_23 h
          refine AW.exit ?_
          obtain rfl := Option.some.inj h
          obtain rfl := hb_18 _ rfl
          exact hK_17 _ (Can.kp (by kernel_rfl))
       ·obtain rfl := Option.some.inj h
        exact hK_16 _ (Can.kp (by kernel_rfl))
      ·obtain ⟨ok3, hx_31, h⟩ := bsome h
       refine AW.jnSK (fun (ok3 : Bool) => ⟨[(3, .d (.bool ok3))], [], 1, Fr.emp, [], 0⟩) (c := ok3) (fun K_31 hK_31 => ?_) ?_
       ·have h := hx_31
        refine AW.sa fokW [] ⟨[(1, .ptr 0 0), (3, .d (.bool ok)), (5, .d (I 0))], [(0, .var 25 (cv25 b))], 1, Fr.emp, [], 0⟩ (by kernel_rfl) ?_
        obtain ⟨ok4, hx_32, h⟩ := bsome h
        refine AW.jqSK (fun (ok4 : Bool) => ⟨[(3, .d (.bool ok4))], [], 1, Fr.emp, [], 0⟩) (c := ok4) (fun K_32 hK_32 => ?_) ?_
        ·have h := hx_32
         refine AW.block ?_
         refine AW.whK (fun (⟨ok5, i1⟩ : Bool × Int) => ⟨[(1, .ptr 0 0), (3, .d (.bool ok5)), (5, .d (I i1))], [(0, .var 25 (cv25 b))], 1, Fr.emp, [], 0⟩) (g35_33 b) h (Can.kp (by kernel_rfl)) (fun s_33 c_33 h hb_33 K_33 hK_33 => ?_)
         obtain ⟨ok5, i1⟩ := s_33
         unfold g35_33 at h
         refine AW.seqK (fun K_34 hK_34 => ?_)
         refine AW.srwK (fun Q_35 hQ_35 => ?_)
         refine RW.au fokW 2 [] ⟨[(1, .ptr 0 0), (3, .d (.bool ok5)), (5, .d (I i1)), (64, .d (.bool ok5))], [(0, .var 25 (cv25 b))], 1, Fr.emp, [], 0⟩ (by kernel_rfl) ?_
         obtain ⟨v7, hx_36, h⟩ := bsome h
         refine RW.cut fokW 6 (⟨[(1, .ptr 0 0), (3, .d (.bool ok5)), (5, .d (I i1)), (70, .d (.bool v7))], [(0, .var 25 (cv25 b))], 1, Fr.emp, [], 0⟩) ?_ ?_
         ·refine r_split 64 rfl (fun hb_37 => ?_) (fun hb_37 => ?_)
          ·have h := ifT hb_37 hx_36
           refine RunC.auX 3 ⟨[(1, .ptr 0 0), (3, .d (.bool ok5)), (5, .d (I i1)), (64, .d (.bool true)), (65, .d (I i1)), (67, .d (.sl 3 (List.map e69 b.Horses)))], [(0, .var 25 (cv25 b))], 1, Fr.emp, [], 0⟩ (by kernel_rfl) ?_
           refine r_lenX rfl rfl lenm ?_
           refine RunC.auX 2 ⟨[(1, .ptr 0 0), (3, .d (.bool ok5)), (5, .d (I i1)), (70, .d (.bool (decide (i1 < (b.Horses.length : Int)))))], [(0, .var 25 (cv25 b))], 1, Fr.emp, [], 0⟩ (by kernel_rfl) ?_
           obtain rfl := Option.some.inj h
           refine RunC.finJ (Can.kp (by kernel_rfl))
          ·have h := ifF hb_37 hx_36
           refine RunC.auX 6 ⟨[(1, .ptr 0 0), (3, .d (.bool ok5)), (5, .d (I i1)), (70, .d (.bool false))], [(0, .var 25 (cv25 b))], 1, Fr.emp, [], 0⟩ (by kernel_rfl) ?_
           obtain rfl := Option.some.inj h
           refine RunC.finJ (Can.kp (by kernel_rfl))
         ·refine RW.nil ?_
          refine hQ_35 _ ?_
          refine AW.cond rfl (fun hb_38 => ?_) (fun hb_38 => ?_)
          ·have h := ifT hb_38 h
           refine AW.skip ?_
           refine hK_34 _ ?_
           refine AW.seqK (fun K_39 hK_39 => ?_)
           refine AW.block ?_
           refine AW.srwK (fun Q_40 hQ_40 => ?_)
           refine RW.au fokW 3 [] ⟨[(1, .ptr 0 0), (5, .d (I i1)), (74, .d (.sl 3 (List.map e69 b.Horses))), (75, .d (I i1))], [(0, .var 25 (cv25 b))], 1, Fr.emp, [], 0⟩ (by kernel_rfl) ?_
           obtain ⟨p1, hv_41, h⟩ := bsome h
           refine RW.one fokW (r_iaD trivial rfl rfl (ixL_ok hv_41).1 (row := e69 p1) (mapget (ixL_ok hv_41).2) (r_end ?_))
           refine RW.au fokW 3 [] ⟨[(1, .ptr 0 0), (5, .d (I i1)), (6, .ptr 1 0)], [(1, .var 69 [.d (I p1.Mane), .d (I p1.Tail), .d (I p1.Shade)]), (0, .var 25 (cv25 b))], 2, Fr.emp, [], 0⟩ (by kernel_rfl) ?_
           refine RW.nil ?_
           refine hQ_40 _ ?_
           refine AW.rw ?_
           refine RW.au fokW 2 [] ⟨[(1, .ptr 0 0), (5, .d (I i1)), (6, .ptr 1 0), (79, .d (I p1.Mane))], [(1, .var 69 [.d (I p1.Mane), .d (I p1.Tail), .d (I p1.Shade)]), (0, .var 25 (cv25 b))], 2, Fr.emp, [], 0⟩ (by kernel_rfl) ?_
           obtain ⟨r0_5, hx_43, h⟩ := bsome h
           refine RW.one fokW (r_call trivial rfl (k50 p1.Mane 1 30 _ hx_43) rfl rfl (r_end ?_))
           refine RW.au fokW 1 [] ⟨[(1, .ptr 0 0), (5, .d (I i1)), (6, .ptr 1 0), (81, .d (.bool r0_5))], [(1, .var 69 [.d (I p1.Mane), .d (I p1.Tail), .d (I p1.Shade)]), (0, .var 25 (cv25 b))], 2, Fr.emp, [], 0⟩ (by kernel_rfl) ?_
           obtain ⟨v8, hx_44, h⟩ := bsome h
           refine RW.cut fokW 4 (⟨[(1, .ptr 0 0), (5, .d (I i1)), (85, .d (.bool v8))], [(0, .var 25 (cv25 b))], 2, Fr.emp, [], 0⟩) ?_ ?_
           ·refine r_split 81 rfl (fun hb_46 => ?_) (fun hb_46 => ?_)
            ·have h := ifT hb_46 hx_44
             refine RunC.auX 2 ⟨[(1, .ptr 0 0), (5, .d (I i1)), (81, .d (.bool true)), (83, .d (I p1.Tail))], [(1, .var 69 [.d (I p1.Mane), .d (I p1.Tail), .d (I p1.Shade)]), (0, .var 25 (cv25 b))], 2, Fr.emp, [], 0⟩ (by kernel_rfl) ?_
             obtain ⟨r0_6, hx_45, h⟩ := bsome h
             refine r_call rfl rfl (k50 p1.Tail 1 30 _ hx_45) rfl rfl ?_
             refine RunC.auX 1 ⟨[(1, .ptr 0 0), (5, .d (I i1)), (85, .d (.bool r0_6))], [(1, .var 69 [.d (I p1.Mane), .d (I p1.Tail), .d (I p1.Shade)]), (0, .var 25 (cv25 b))], 2, Fr.emp, [], 0⟩ (by kernel_rfl) ?_
             obtain rfl := Option.some.inj h
             refine RunC.finJ (Can.kp (by kernel_rfl))
            ·have h := ifF hb_46 hx_44
             refine RunC.auX 4 ⟨[(1, .ptr 0 0), (5, .d (I i1)), (85, .d (.bool false))], [(1, .var 69 [.d (I p1.Mane), .d (I p1.Tail), .d (I p1.Shade)]), (0, .var 25 (cv25 b))], 2, Fr.emp, [], 0⟩ (by kernel_rfl) ?_
             obtain rfl := Option.some.inj h
             refine RunC.finJ (Can.kp (by kernel_rfl))
           ·refine RW.au fokW 1 [] ⟨[(1, .ptr 0 0), (3, .d (.bool v8)), (5, .d (I i1))], [(0, .var 25 (cv25 b))], 2, Fr.emp, [], 0⟩ (by kernel_rfl) ?_
            refine RW.nil ?_
            refine hK_39 _ ?_
            refine AW.ra fokW [] ⟨[(1, .ptr 0 0), (3, .d (.bool v8)), (5, .d (I (wr (i1 + 1))))], [(0, .var 25 (cv25 b))], 2, Fr.emp, [], 0⟩ (by kernel_rfl) ?_
            obtain rfl := Option.some.inj h
            exact hK_33 _ _ rfl (Can.kp (by kernel_rfl))
          ·have h := ifF hb_38 h
           refine AW.exit ?_
           obtain rfl := Option.some.inj h
           obtain rfl := hb_33 _ rfl
           exact hK_32 _ (Can.kp (by kernel_rfl))
        ·obtain rfl := Option.some.inj h
         exact hK_31 _ (Can.kp (by kernel_rfl))
       ·refine AW.sa fokW [] ⟨[(2, .d (.bool ok3))], [], 1, Fr.emp, [], 0⟩ (by kernel_rfl) ?_
        obtain rfl := Option.some.inj h
        exact AW.ret (hR_0 _ (retX (.cons (.tmp rfl) .nil) (.refl _) rfl (by kernel_rfl) (by kernel_rfl)))
def g39 (n : Int) (many : Int) : Option Int := bif (decide (many < 1)) then (some 0) else ((must (decide (many ≠ 0))).bind fun _ => bif (decide ((n.tmod many) < 0)) then (some (wr ((n.tmod many) + many))) else (some (n.tmod many)))
theorem k39 (n : Int) (many : Int) (r : Int) (h : g39 n many = some r) : SCall Tryd.prog Gs 39 [.d (I n), .d (I many)] [] 0 Fr.emp (.d (I r)) [] 0 Fr.emp := by
 unfold g39 at h
 refine SCall.mkK Tryd.func39 c39 rfl rfl (by kernel_rfl) (fun Q_0 hR_0 hN_0 => ?_)
 refine AW.sa fokW [] ⟨[(0, .d (I n)), (1, .d (I many))], [], 0, Fr.emp, [], 0⟩ (by kernel_rfl) ?_
 refine AW.seqK (fun K_1 hK_1 => ?_)
 refine AW.sa fokW [] ⟨[(0, .d (I n)), (1, .d (I many)), (7, .d (.bool (decide (many < 1))))], [], 0, Fr.emp, [], 0⟩ (by kernel_rfl) ?_
 refine AW.cond rfl (fun hb_2 => ?_) (fun hb_2 => ?_)
 ·have h := ifT hb_2 h
  refine AW.sa fokW [] ⟨[(4, .d (I 0))], [], 0, Fr.emp, [], 0⟩ (by kernel_rfl) ?_
  obtain rfl := Option.some.inj h
  exact AW.ret (hR_0 _ (retX (.cons (.tmp rfl) .nil) (.refl _) rfl (by kernel_rfl) (by kernel_rfl)))
 ·have h := ifF hb_2 h
  refine AW.skip ?_
  refine hK_1 _ ?_
  refine AW.srwK (fun Q_3 hQ_3 => ?_)
  refine RW.au fokW 2 [] ⟨[(1, .d (I many)), (8, .d (I n)), (9, .d (I many))], [], 0, Fr.emp, [], 0⟩ (by kernel_rfl) ?_
  obtain ⟨_, hv_4, h⟩ := bsome h
  refine RW.one fokW (r_rem trivial rfl rfl (of_decide_eq_true (must_ok hv_4)) (r_end ?_))
  refine RW.au fokW 1 [] ⟨[(1, .d (I many)), (5, .d (I (n.tmod many)))], [], 0, Fr.emp, [], 0⟩ (by kernel_rfl) ?_
  refine RW.nil ?_
  refine hQ_3 _ ?_
  refine AW.seqK (fun K_5 hK_5 => ?_)
  refine AW.sa fokW [] ⟨[(1, .d (I many)), (5, .d (I (n.tmod many))), (12, .d (.bool (decide ((n.tmod many) < 0))))], [], 0, Fr.emp, [], 0⟩ (by kernel_rfl) ?_
  refine AW.cond rfl (fun hb_6 => ?_) (fun hb_6 => ?_)
  ·have h := ifT hb_6 h
   refine AW.ra fokW [] ⟨[(5, .d (I (wr ((n.tmod many) + many))))], [], 0, Fr.emp, [], 0⟩ (by kernel_rfl) ?_
   refine hK_5 _ ?_
   refine AW.sa fokW [] ⟨[(4, .d (I (wr ((n.tmod many) + many))))], [], 0, Fr.emp, [], 0⟩ (by kernel_rfl) ?_
   obtain rfl := Option.some.inj h
   exact AW.ret (hR_0 _ (retX (.cons (.tmp rfl) .nil) (.refl _) rfl (by kernel_rfl) (by kernel_rfl)))
  ·have h := ifF hb_6 h
   refine AW.skip ?_
   refine hK_5 _ ?_
   refine AW.sa fokW [] ⟨[(4, .d (I (n.tmod many)))], [], 0, Fr.emp, [], 0⟩ (by kernel_rfl) ?_
   obtain rfl := Option.some.inj h
   exact AW.ret (hR_0 _ (retX (.cons (.tmp rfl) .nil) (.refl _) rfl (by kernel_rfl) (by kernel_rfl)))
def g93 (l : (List Int)) (n : Int) : Option Int := bif (decide ((l.length : Int) = 0)) then (some 0) else ((g39 n (l.length : Int)).bind fun r0_2 => (ixL l r0_2).bind fun p => some p)
theorem k93 (l : (List Int)) (n : Int) (r : Int) (h : g93 l n = some r) : SCall Tryd.prog Gs 93 [.d (.sl 1 (List.map e3 l)), .d (I n)] [] 0 Fr.emp (.d (I r)) [] 0 Fr.emp := by
 unfold g93 at h
 refine SCall.mkK Tryd.func93 c93 rfl rfl (by kernel_rfl) (fun Q_0 hR_0 hN_0 => ?_)
 refine AW.sa fokW [] ⟨[(0, .d (.sl 1 (List.map e3 l))), (1, .d (I n))], [], 0, Fr.emp, [], 0⟩ (by kernel_rfl) ?_
 refine AW.seqK (fun K_1 hK_1 => ?_)
 refine AW.srwK (fun Q_2 hQ_2 => ?_)
 refine RW.au fokW 1 [] ⟨[(0, .d (.sl 1 (List.map e3 l))), (1, .d (I n)), (5, .d (.sl 1 (List.map e3 l)))], [], 0, Fr.emp, [], 0⟩ (by kernel_rfl) ?_
 refine RW.one fokW (r_lenX trivial rfl lenm (r_end ?_))
 refine RW.au fokW 1 [] ⟨[(0, .d (.sl 1 (List.map e3 l))), (1, .d (I n)), (7, .d (.bool (decide ((l.length : Int) = 0))))], [], 0, Fr.emp, [], 0⟩ (by kernel_rfl) ?_
 refine RW.nil ?_
 refine hQ_2 _ ?_
 refine AW.cond rfl (fun hb_3 => ?_) (fun hb_3 => ?_)
 ·have h := ifT hb_3 h
  refine AW.sa fokW [] ⟨[(4, .d (I 0))], [], 0, Fr.emp, [], 0⟩ (by kernel_rfl) ?_
  obtain rfl := Option.some.inj h
  exact AW.ret (hR_0 _ (retX (.cons (.tmp rfl) .nil) (.refl _) rfl (by kernel_rfl) (by kernel_rfl)))
 ·have h := ifF hb_3 h
  refine AW.skip ?_
  refine hK_1 _ ?_
  refine AW.srwK (fun Q_4 hQ_4 => ?_)
  refine RW.au fokW 3 [] ⟨[(8, .d (.sl 1 (List.map e3 l))), (9, .d (I n)), (10, .d (.sl 1 (List.map e3 l)))], [], 0, Fr.emp, [], 0⟩ (by kernel_rfl) ?_
  refine RW.one fokW (r_lenX trivial rfl lenm (r_end ?_))
  obtain ⟨r0_2, hx_5, h⟩ := bsome h
  refine RW.one fokW (r_call trivial rfl (k39 n (l.length : Int) _ hx_5) rfl rfl (r_end ?_))
  obtain ⟨p, hv_6, h⟩ := bsome h
  refine RW.one fokW (r_iaD trivial rfl rfl (ixL_ok hv_6).1 (row := e3 p) (mapget (ixL_ok hv_6).2) (r_end ?_))
  refine RW.au fokW 2 [] ⟨[(4, .d (I p))], [], 0, Fr.emp, [], 0⟩ (by kernel_rfl) ?_
  refine RW.nil ?_
  refine hQ_4 _ ?_
  obtain rfl := Option.some.inj h
  exact AW.ret (hR_0 _ (retX (.cons (.tmp rfl) .nil) (.refl _) rfl (by kernel_rfl) (by kernel_rfl)))
def g36_2 (b : HairBook) (bits : (List Int)) : Int → (List Int) → Option (List Int) := fun i l => (g93 bits i).bind fun r0_1 => (g39 (wr (r0_1 + (wr (i.tdiv 2)))) (b.Hanks.length : Int)).bind fun r0_2 => (appL 8 l [r0_2]).bind fun l1 => some l1
def g36 (b : HairBook) (bits : (List Int)) : Option (List Int) := (forS (g36_2 b bits) ((((wr (2 * (b.Horses.length : Int))) : Int) - 0).toNat) 0 ([] : List Int)).bind fun l => some l
theorem k36 (b : HairBook) (bits : (List Int)) (r : (List Int)) (h : g36 b bits = some r) : SCall Tryd.prog Gs 36 [.agg (cv25 b), .d (.sl 1 (List.map e3 bits))] [] 0 Fr.emp (.d (.sl 1 (List.map e3 r))) [] 0 Fr.emp := by
 unfold g36 at h
 refine SCall.mkK Tryd.func36 c36 rfl rfl (by kernel_rfl) (fun Q_0 hR_0 hN_0 => ?_)
 refine AW.sa fokW [] ⟨[(1, .d (.sl 1 (List.map e3 bits))), (2, .ptr 0 0)], [(0, .var 25 (cv25 b))], 1, Fr.emp, [], 0⟩ (by kernel_rfl) ?_
 refine AW.sa fokW [] ⟨[(1, .d (.sl 1 (List.map e3 bits))), (2, .ptr 0 0), (5, .own 1 (List.map e3 []).length)], [(1, .row 3 1 (List.map e3 [])), (0, .var 25 (cv25 b))], 2, Fr.emp, [], 0⟩ (by kernel_rfl) ?_
 refine AW.seqK (fun K_1 hK_1 => ?_)
 refine AW.sa fokW [] ⟨[(1, .d (.sl 1 (List.map e3 bits))), (2, .ptr 0 0), (5, .own 1 (List.map e3 []).length), (6, .d (I 0))], [(1, .row 3 1 (List.map e3 [])), (0, .var 25 (cv25 b))], 2, Fr.emp, [], 0⟩ (by kernel_rfl) ?_
 refine AW.block ?_
 have hN_2 : (wr (2 * (b.Horses.length : Int))) ≤ 9223372036854775807 := (wr_range _).2
 obtain ⟨out_2, hx_2, h⟩ := bsome h
 refine AW.lpSK (fun (i : Int) (l : List Int) => ⟨[(1, .d (.sl 1 (List.map e3 bits))), (2, .ptr 0 0), (5, .own 1 (List.map e3 l).length), (6, .d (I i))], [(1, .row 3 1 (List.map e3 l)), (0, .var 25 (cv25 b))], 2, Fr.emp, [], 0⟩) (g36_2 b bits) ((wr (2 * (b.Horses.length : Int)))) hx_2 (Can.kp (by kernel_rfl)) (fun i l hi_2 hl_2 c_2 h K_2 hK_2 => ?_) (fun i l hi_2 hl_2 hout => ?_)
 ·unfold g36_2 at h
  refine AW.seqK (fun K_3 hK_3 => ?_)
  refine AW.srwK (fun Q_4 hQ_4 => ?_)
  refine RW.au fokW 3 [] ⟨[(1, .d (.sl 1 (List.map e3 bits))), (2, .ptr 0 0), (5, .own 1 (List.map e3 l).length), (6, .d (I i)), (8, .d (I i)), (10, .d (.sl 3 (List.map e69 b.Horses)))], [(1, .row 3 1 (List.map e3 l)), (0, .var 25 (cv25 b))], 2, Fr.emp, [], 0⟩ (by kernel_rfl) ?_
  refine RW.one fokW (r_lenX trivial rfl lenm (r_end ?_))
  refine RW.au fokW 2 [] ⟨[(1, .d (.sl 1 (List.map e3 bits))), (2, .ptr 0 0), (5, .own 1 (List.map e3 l).length), (6, .d (I i)), (13, .d (.bool (decide (i < (wr (2 * (b.Horses.length : Int)))))))], [(1, .row 3 1 (List.map e3 l)), (0, .var 25 (cv25 b))], 2, Fr.emp, [], 0⟩ (by kernel_rfl) ?_
  refine RW.nil ?_
  refine hQ_4 _ ?_
  refine AW.cond rfl (fun hb_5 => ?_) (fun hb_5 => False.elim (by have := of_decide_eq_false hb_5; omega))
  refine AW.skip ?_
  refine hK_3 _ ?_
  refine AW.seqK (fun K_6 hK_6 => ?_)
  refine AW.block ?_
  refine AW.drw fokW ?_
  refine RunC.auX 3 ⟨[(1, .d (.sl 1 (List.map e3 bits))), (2, .ptr 0 0), (6, .d (I i)), (16, .own 1 (List.map e3 l).length), (17, .d (.sl 1 (List.map e3 bits))), (18, .d (I i))], [(1, .row 3 1 (List.map e3 l)), (0, .var 25 (cv25 b))], 2, Fr.emp, [], 0⟩ (by kernel_rfl) ?_
  obtain ⟨r0_1, hx_8, h⟩ := bsome h
  refine r_call trivial rfl (k93 bits i _ hx_8) rfl rfl ?_
  refine RunC.auX 5 ⟨[(1, .d (.sl 1 (List.map e3 bits))), (2, .ptr 0 0), (6, .d (I i)), (16, .own 1 (List.map e3 l).length), (22, .d (I (wr (r0_1 + (wr (i.tdiv 2)))))), (24, .d (.sl 4 (List.map e58 b.Hanks)))], [(1, .row 3 1 (List.map e3 l)), (0, .var 25 (cv25 b))], 2, Fr.emp, [], 0⟩ (by kernel_rfl) ?_
  refine r_lenX trivial rfl lenm ?_
  obtain ⟨r0_2, hx_9, h⟩ := bsome h
  refine r_call trivial rfl (k39 (wr (r0_1 + (wr (i.tdiv 2)))) (b.Hanks.length : Int) _ hx_9) rfl rfl ?_
  refine RunC.auX 1 ⟨[(1, .d (.sl 1 (List.map e3 bits))), (2, .ptr 0 0), (6, .d (I i)), (16, .own 1 (List.map e3 l).length), (27, .own 2 (List.map e3 [r0_2]).length)], [(2, .row 3 1 (List.map e3 [r0_2])), (1, .row 3 1 (List.map e3 l)), (0, .var 25 (cv25 b))], 3, Fr.emp, [], 0⟩ (by kernel_rfl) ?_
  obtain ⟨l1, hv_10, h⟩ := bsome h
  refine r_apO trivial rfl rfl rfl rfl rfl rfl (apz hv_10 e3) (apr hv_10 e3) ?_
  refine RunC.auX 1 ⟨[(1, .d (.sl 1 (List.map e3 bits))), (2, .ptr 0 0), (5, .own 1 (List.map e3 l1).length), (6, .d (I i))], [(1, .row 3 1 (List.map e3 l1)), (2, .row 3 1 (List.map e3 [r0_2])), (0, .var 25 (cv25 b))], 3, Fr.emp, [], 0⟩ (by kernel_rfl) ?_
  refine RunC.fin ⟨[(1, .d (.sl 1 (List.map e3 bits))), (2, .ptr 0 0), (5, .own 1 (List.map e3 l1).length), (6, .d (I i))], [(1, .row 3 1 (List.map e3 l1)), (0, .var 25 (cv25 b))], 3, Fr.emp, [], 0⟩ (by kernel_rfl) (by kernel_rfl) ?_
  refine hK_6 _ ?_
  refine AW.ra fokW [] ⟨[(1, .d (.sl 1 (List.map e3 bits))), (2, .ptr 0 0), (5, .own 1 (List.map e3 l1).length), (6, .d (I (wr (i + 1))))], [(1, .row 3 1 (List.map e3 l1)), (0, .var 25 (cv25 b))], 3, Fr.emp, [], 0⟩ (by kernel_rfl) ?_
  obtain rfl := Option.some.inj h
  have ew : wr (i + 1) = i + 1 := inext (N := (wr (2 * (b.Horses.length : Int)))) (by omega) (by omega) (by omega)
  rw [ew]
  exact hK_2 _ (Can.kp (by kernel_rfl))
 ·subst hout
  refine AW.seqK (fun K_11 hK_11 => ?_)
  refine AW.srwK (fun Q_12 hQ_12 => ?_)
  refine RW.au fokW 3 [] ⟨[(1, .d (.sl 1 (List.map e3 bits))), (2, .ptr 0 0), (5, .own 1 (List.map e3 l).length), (6, .d (I i)), (8, .d (I i)), (10, .d (.sl 3 (List.map e69 b.Horses)))], [(1, .row 3 1 (List.map e3 l)), (0, .var 25 (cv25 b))], 2, Fr.emp, [], 0⟩ (by kernel_rfl) ?_
  refine RW.one fokW (r_lenX trivial rfl lenm (r_end ?_))
  refine RW.au fokW 2 [] ⟨[(1, .d (.sl 1 (List.map e3 bits))), (2, .ptr 0 0), (5, .own 1 (List.map e3 l).length), (6, .d (I i)), (13, .d (.bool (decide (i < (wr (2 * (b.Horses.length : Int)))))))], [(1, .row 3 1 (List.map e3 l)), (0, .var 25 (cv25 b))], 2, Fr.emp, [], 0⟩ (by kernel_rfl) ?_
  refine RW.nil ?_
  refine hQ_12 _ ?_
  refine AW.cond rfl (fun hb_13 => False.elim (by have := of_decide_eq_true hb_13; omega)) (fun hb_13 => ?_)
  refine AW.exit ?_
  refine hK_1 _ ?_
  refine AW.sa fokW [] ⟨[(4, .own 1 (List.map e3 l).length)], [(1, .row 3 1 (List.map e3 l))], 2, Fr.emp, [], 0⟩ (by kernel_rfl) ?_
  obtain rfl := Option.some.inj h
  exact AW.ret (hR_0 _ (retX (.cons (.tmp rfl) .nil) (.own rfl rfl) rfl (by kernel_rfl) (by kernel_rfl)))
end Go.Proofs.Th
namespace Go.Proofs.Th
open Go Go.Abs Go.Proofs
def g8 (b : HairBook) (bits : (List Int)) : Option Bool := (g35 b).bind fun r0_7 => bif (!r0_7) then ((g25).bind fun r0_12 => some r0_12) else ((g26 b).bind fun (r0_3, r1_3) => (g29 b).bind fun (r0_2, r1_1) => (bif (decide (r1_1 ≠ 0)) then (some true) else (some (true != ((decide (r1_3 = 0)) == (decide ((r0_2.length : Int) = 0)))))).bind fun v => (bif v then (some true) else (bif (decide (r1_3 ≠ 0)) then (bif (decide (r1_3 ≠ 4)) then (some true) else (some (decide ((r0_3.length : Int) ≠ 0)))) else (some false))).bind fun v1 => bif v1 then (some false) else (bif (decide ((b.Hanks.length : Int) = 0)) then ((bif (decide ((r0_2.length : Int) = (b.Horses.length : Int))) then ((g25).bind fun r0_12_1 => some r0_12_1) else (some false)).bind fun v2 => some v2) else ((g36 b bits).bind fun r0 => (g19 b r0).bind fun (r0_2_1, r1_4) => bif ((decide (r1_4 ≠ 0)) || (r0_2_1 && (decide (r1_3 ≠ 0)))) then (some false) else (bif (!r0_2_1) then ((g25).bind fun r0_12_2 => some r0_12_2) else ((g23 b r0_3).bind fun (r0_2_2, r1_4_1) => (g23 b r0).bind fun (r0_2_3, r1_4_2) => (bif ((decide (r1_4_1 = 0)) && (decide (r1_4_2 = 0))) then (bif (decide (r0_2_2.High < r0_2_3.High)) then (some true) else (bif (decide (r0_2_2.High = r0_2_3.High)) then ((g45 r0 r0_3).bind fun r0_1 => some (!r0_1)) else (some false))) else (some false)).bind fun v3 => (bif v3 then ((g25).bind fun r0_12_3 => some r0_12_3) else (some false)).bind fun v4 => some v4)))))
theorem k8 (b : HairBook) (bits : (List Int)) (r : Bool) (h : g8 b bits = some r) : SCall Tryd.prog Gs 8 [.agg (cv25 b), .d (.sl 1 (List.map e3 bits))] [] 0 Fr.emp (.d (.bool r)) [] 0 Fr.emp := by
 unfold g8 at h
 refine SCall.mkK Tryd.func8 c8 rfl rfl (by kernel_rfl) (fun Q_0 hR_0 hN_0 => ?_)
 refine AW.sa fokW [] ⟨[(1, .d (.sl 1 (List.map e3 bits))), (2, .ptr 0 0)], [(0, .var 25 (cv25 b))], 1, Fr.emp, [], 0⟩ (by kernel_rfl) ?_
 refine AW.seqK (fun K_1 hK_1 => ?_)
 refine AW.srwK (fun Q_2 hQ_2 => ?_)
 refine RW.au fokW 1 [] ⟨[(1, .d (.sl 1 (List.map e3 bits))), (2, .ptr 0 0), (16, .agg (cv25 b))], [(0, .var 25 (cv25 b))], 1, Fr.emp, [], 0⟩ (by kernel_rfl) ?_
 obtain ⟨r0_7, hx_3, h⟩ := bsome h
 refine RW.one fokW (r_call trivial rfl (k35 b _ hx_3) rfl rfl (r_end ?_))
 refine RW.au fokW 1 [] ⟨[(1, .d (.sl 1 (List.map e3 bits))), (2, .ptr 0 0), (18, .d (.bool (!r0_7)))], [(0, .var 25 (cv25 b))], 1, Fr.emp, [], 0⟩ (by kernel_rfl) ?_
 refine RW.nil ?_
 refine hQ_2 _ ?_
 refine AW.cond rfl (fun hb_4 => ?_) (fun hb_4 => ?_)
 ·have h := ifT hb_4 h
  refine AW.srwK (fun Q_5 hQ_5 => ?_)
  obtain ⟨r0_12, hx_6, h⟩ := bsome h
  refine RW.one fokW (r_call trivial rfl (k25 _ hx_6) rfl rfl (r_end ?_))
  refine RW.au fokW 1 [] ⟨[(4, .d (.bool r0_12))], [], 1, Fr.emp, [], 0⟩ (by kernel_rfl) ?_
  refine RW.nil ?_
  refine hQ_5 _ ?_
  obtain rfl := Option.some.inj h
  exact AW.ret (hR_0 _ (retX (.cons (.tmp rfl) .nil) (.refl _) rfl (by kernel_rfl) (by kernel_rfl)))
 ·have h := ifF hb_4 h
  refine AW.skip ?_
  refine hK_1 _ ?_
  refine AW.srwK (fun Q_7 hQ_7 => ?_)
  refine RW.au fokW 1 [] ⟨[(1, .d (.sl 1 (List.map e3 bits))), (2, .ptr 0 0), (21, .agg (cv25 b))], [(0, .var 25 (cv25 b))], 1, Fr.emp, [], 0⟩ (by kernel_rfl) ?_
  obtain ⟨⟨r0_3, r1_3⟩, hx_8, h⟩ := bsome h
  refine RW.one fokW (r_call trivial rfl (k26 b _ hx_8) rfl rfl (r_end ?_))
  refine RW.au fokW 5 [] ⟨[(1, .d (.sl 1 (List.map e3 bits))), (2, .ptr 0 0), (5, .d (.sl 1 (List.map e3 r0_3))), (6, .d (I r1_3))], [(0, .var 25 (cv25 b))], 1, Fr.emp, [], 0⟩ (by kernel_rfl) ?_
  refine RW.nil ?_
  refine hQ_7 _ ?_
  refine AW.srwK (fun Q_9 hQ_9 => ?_)
  refine RW.au fokW 1 [] ⟨[(1, .d (.sl 1 (List.map e3 bits))), (2, .ptr 0 0), (5, .d (.sl 1 (List.map e3 r0_3))), (6, .d (I r1_3)), (26, .agg (cv25 b))], [(0, .var 25 (cv25 b))], 1, Fr.emp, [], 0⟩ (by kernel_rfl) ?_
  obtain ⟨⟨r0_2, r1_1⟩, hx_10, h⟩ := bsome h
  refine RW.one fokW (r_call trivial rfl (k29 b _ hx_10) rfl rfl (r_end ?_))
  refine RW.au fokW 5 [] ⟨[(1, .d (.sl 1 (List.map e3 bits))), (2, .ptr 0 0), (5, .d (.sl 1 (List.map e3 r0_3))), (6, .d (I r1_3)), (7, .d (.sl 1 (List.map e3 r0_2))), (8, .d (I r1_1))], [(0, .var 25 (cv25 b))], 1, Fr.emp, [], 0⟩ (by kernel_rfl) ?_
  refine RW.nil ?_
  refine hQ_9 _ ?_
  refine AW.seqK (fun K_11 hK_11 => ?_)
  refine AW.srwK (fun Q_12 hQ_12 => ?_)
  refine RW.au fokW 3 [] ⟨[(1, .d (.sl 1 (List.map e3 bits))), (2, .ptr 0 0), (5, .d (.sl 1 (List.map e3 r0_3))), (6, .d (I r1_3)), (7, .d (.sl 1 (List.map e3 r0_2))), (32, .d (.bool (decide (r1_1 ≠ 0))))], [(0, .var 25 (cv25 b))], 1, Fr.emp, [], 0⟩ (by kernel_rfl) ?_
  obtain ⟨v, hx_13, h⟩ := bsome h
  refine RW.cut fokW 7 (⟨[(1, .d (.sl 1 (List.map e3 bits))), (2, .ptr 0 0), (5, .d (.sl 1 (List.map e3 r0_3))), (6, .d (I r1_3)), (7, .d (.sl 1 (List.map e3 r0_2))), (39, .d (.bool v))], [(0, .var 25 (cv25 b))], 1, Fr.emp, [], 0⟩) ?_ ?_
  ·refine r_split 32 rfl (fun hb_14 => ?_) (fun hb_14 => ?_)
   ·have h := ifT hb_14 hx_13
    refine RunC.auX 7 ⟨[(1, .d (.sl 1 (List.map e3 bits))), (2, .ptr 0 0), (5, .d (.sl 1 (List.map e3 r0_3))), (6, .d (I r1_3)), (7, .d (.sl 1 (List.map e3 r0_2))), (39, .d (.bool true))], [(0, .var 25 (cv25 b))], 1, Fr.emp, [], 0⟩ (by kernel_rfl) ?_
    obtain rfl := Option.some.inj h
    refine RunC.finJ (Can.kp (by kernel_rfl))
   ·have h := ifF hb_14 hx_13
    refine RunC.auX 3 ⟨[(1, .d (.sl 1 (List.map e3 bits))), (2, .ptr 0 0), (5, .d (.sl 1 (List.map e3 r0_3))), (6, .d (I r1_3)), (7, .d (.sl 1 (List.map e3 r0_2))), (32, .d (.bool false)), (34, .d (.bool (decide (r1_3 = 0)))), (35, .d (.sl 1 (List.map e3 r0_2)))], [(0, .var 25 (cv25 b))], 1, Fr.emp, [], 0⟩ (by kernel_rfl) ?_
    refine r_lenX rfl rfl lenm ?_
    refine RunC.auX 3 ⟨[(1, .d (.sl 1 (List.map e3 bits))), (2, .ptr 0 0), (5, .d (.sl 1 (List.map e3 r0_3))), (6, .d (I r1_3)), (7, .d (.sl 1 (List.map e3 r0_2))), (39, .d (.bool (true != ((decide (r1_3 = 0)) == (decide ((r0_2.length : Int) = 0))))))], [(0, .var 25 (cv25 b))], 1, Fr.emp, [], 0⟩ (by kernel_rfl) ?_
    obtain rfl := Option.some.inj h
    refine RunC.finJ (Can.kp (by kernel_rfl))
  ·refine RW.au fokW 1 [] ⟨[(1, .d (.sl 1 (List.map e3 bits))), (2, .ptr 0 0), (5, .d (.sl 1 (List.map e3 r0_3))), (6, .d (I r1_3)), (7, .d (.sl 1 (List.map e3 r0_2))), (40, .d (.bool v))], [(0, .var 25 (cv25 b))], 1, Fr.emp, [], 0⟩ (by kernel_rfl) ?_
   obtain ⟨v1, hx_15, h⟩ := bsome h
   refine RW.cut fokW 12 (⟨[(1, .d (.sl 1 (List.map e3 bits))), (2, .ptr 0 0), (5, .d (.sl 1 (List.map e3 r0_3))), (6, .d (I r1_3)), (7, .d (.sl 1 (List.map e3 r0_2))), (52, .d (.bool v1))], [(0, .var 25 (cv25 b))], 1, Fr.emp, [], 0⟩) ?_ ?_
   ·refine r_split 40 rfl (fun hb_18 => ?_) (fun hb_18 => ?_)
    ·have h := ifT hb_18 hx_15
     refine RunC.auX 12 ⟨[(1, .d (.sl 1 (List.map e3 bits))), (2, .ptr 0 0), (5, .d (.sl 1 (List.map e3 r0_3))), (6, .d (I r1_3)), (7, .d (.sl 1 (List.map e3 r0_2))), (52, .d (.bool true))], [(0, .var 25 (cv25 b))], 1, Fr.emp, [], 0⟩ (by kernel_rfl) ?_
     obtain rfl := Option.some.inj h
     refine RunC.finJ (Can.kp (by kernel_rfl))
    ·have h := ifF hb_18 hx_15
     refine RunC.auX 3 ⟨[(1, .d (.sl 1 (List.map e3 bits))), (2, .ptr 0 0), (5, .d (.sl 1 (List.map e3 r0_3))), (6, .d (I r1_3)), (7, .d (.sl 1 (List.map e3 r0_2))), (40, .d (.bool false)), (43, .d (.bool (decide (r1_3 ≠ 0))))], [(0, .var 25 (cv25 b))], 1, Fr.emp, [], 0⟩ (by kernel_rfl) ?_
     refine r_split 43 rfl (fun hb_16 => ?_) (fun hb_16 => ?_)
     ·have h := ifT hb_16 h
      refine RunC.auX 3 ⟨[(1, .d (.sl 1 (List.map e3 bits))), (2, .ptr 0 0), (5, .d (.sl 1 (List.map e3 r0_3))), (6, .d (I r1_3)), (7, .d (.sl 1 (List.map e3 r0_2))), (40, .d (.bool false)), (43, .d (.bool true)), (46, .d (.bool (decide (r1_3 ≠ 4))))], [(0, .var 25 (cv25 b))], 1, Fr.emp, [], 0⟩ (by kernel_rfl) ?_
      refine r_split 46 rfl (fun hb_17 => ?_) (fun hb_17 => ?_)
      ·have h := ifT hb_17 h
       refine RunC.auX 6 ⟨[(1, .d (.sl 1 (List.map e3 bits))), (2, .ptr 0 0), (5, .d (.sl 1 (List.map e3 r0_3))), (6, .d (I r1_3)), (7, .d (.sl 1 (List.map e3 r0_2))), (52, .d (.bool true))], [(0, .var 25 (cv25 b))], 1, Fr.emp, [], 0⟩ (by kernel_rfl) ?_
       obtain rfl := Option.some.inj h
       refine RunC.finJ (Can.kp (by kernel_rfl))
      ·have h := ifF hb_17 h
       refine RunC.auX 1 ⟨[(1, .d (.sl 1 (List.map e3 bits))), (2, .ptr 0 0), (5, .d (.sl 1 (List.map e3 r0_3))), (6, .d (I r1_3)), (7, .d (.sl 1 (List.map e3 r0_2))), (40, .d (.bool false)), (43, .d (.bool true)), (46, .d (.bool false)), (47, .d (.sl 1 (List.map e3 r0_3)))], [(0, .var 25 (cv25 b))], 1, Fr.emp, [], 0⟩ (by kernel_rfl) ?_
       refine r_lenX rfl rfl lenm ?_
       refine RunC.auX 4 ⟨[(1, .d (.sl 1 (List.map e3 bits))), (2, .ptr 0 0), (5, .d (.sl 1 (List.map e3 r0_3))), (6, .d (I r1_3)), (7, .d (.sl 1 (List.map e3 r0_2))), (52, .d (.bool (decide ((r0_3.length : Int) ≠ 0))))], [(0, .var 25 (cv25 b))], 1, Fr.emp, [], 0⟩ (by kernel_rfl) ?_
       obtain rfl := Option.some.inj h
       refine RunC.finJ (Can.kp (by kernel_rfl))
     ·have h := ifF hb_16 h
      refine RunC.auX 9 ⟨[(1, .d (.sl 1 (List.map e3 bits))), (2, .ptr 0 0), (5, .d (.sl 1 (List.map e3 r0_3))), (6, .d (I r1_3)), (7, .d (.sl 1 (List.map e3 r0_2))), (52, .d (.bool false))], [(0, .var 25 (cv25 b))], 1, Fr.emp, [], 0⟩ (by kernel_rfl) ?_
      obtain rfl := Option.some.inj h
      refine RunC.finJ (Can.kp (by kernel_rfl))
   ·refine RW.nil ?_
    refine hQ_12 _ ?_
    refine AW.cond rfl (fun hb_19 => ?_) (fun hb_19 => ?_)
    ·have h := ifT hb_19 h
     refine AW.sa fokW [] ⟨[(4, .d (.bool false))], [], 1, Fr.emp, [], 0⟩ (by kernel_rfl) ?_
     obtain rfl := Option.some.inj h
     exact AW.ret (hR_0 _ (retX (.cons (.tmp rfl) .nil) (.refl _) rfl (by kernel_rfl) (by kernel_rfl)))
    ·have h := ifF hb_19 h
     refine AW.skip ?_
     refine hK_11 _ ?_
     refine AW.seqK (fun K_20 hK_20 => ?_)
     refine AW.srwK (fun Q_21 hQ_21 => ?_)
     refine RW.au fokW 2 [] ⟨[(1, .d (.sl 1 (List.map e3 bits))), (2, .ptr 0 0), (5, .d (.sl 1 (List.map e3 r0_3))), (6, .d (I r1_3)), (7, .d (.sl 1 (List.map e3 r0_2))), (54, .d (.sl 4 (List.map e58 b.Hanks)))], [(0, .var 25 (cv25 b))], 1, Fr.emp, [], 0⟩ (by kernel_rfl) ?_
     refine RW.one fokW (r_lenX trivial rfl lenm (r_end ?_))
     refine RW.au fokW 1 [] ⟨[(1, .d (.sl 1 (List.map e3 bits))), (2, .ptr 0 0), (5, .d (.sl 1 (List.map e3 r0_3))), (6, .d (I r1_3)), (7, .d (.sl 1 (List.map e3 r0_2))), (56, .d (.bool (decide ((b.Hanks.length : Int) = 0))))], [(0, .var 25 (cv25 b))], 1, Fr.emp, [], 0⟩ (by kernel_rfl) ?_
     refine RW.nil ?_
     refine hQ_21 _ ?_
     refine AW.cond rfl (fun hb_22 => ?_) (fun hb_22 => ?_)
     ·have h := ifT hb_22 h
      refine AW.srwK (fun Q_23 hQ_23 => ?_)
      refine RW.au fokW 1 [] ⟨[(2, .ptr 0 0), (57, .d (.sl 1 (List.map e3 r0_2)))], [(0, .var 25 (cv25 b))], 1, Fr.emp, [], 0⟩ (by kernel_rfl) ?_
      refine RW.one fokW (r_lenX trivial rfl lenm (r_end ?_))
      refine RW.au fokW 2 [] ⟨[(58, .d (I (r0_2.length : Int))), (60, .d (.sl 3 (List.map e69 b.Horses)))], [], 1, Fr.emp, [], 0⟩ (by kernel_rfl) ?_
      refine RW.one fokW (r_lenX trivial rfl lenm (r_end ?_))
      refine RW.au fokW 2 [] ⟨[(63, .d (.bool (decide ((r0_2.length : Int) = (b.Horses.length : Int)))))], [], 1, Fr.emp, [], 0⟩ (by kernel_rfl) ?_
      obtain ⟨v2, hx_24, h⟩ := bsome h
      refine RW.cut fokW 2 (⟨[(65, .d (.bool v2))], [], 1, Fr.emp, [], 0⟩) ?_ ?_
      ·refine r_split 63 rfl (fun hb_26 => ?_) (fun hb_26 => ?_)
       ·have h := ifT hb_26 hx_24
        obtain ⟨r0_12_1, hx_25, h⟩ := bsome h
        refine r_call rfl rfl (k25 _ hx_25) rfl rfl ?_
        refine RunC.auX 1 ⟨[(65, .d (.bool r0_12_1))], [], 1, Fr.emp, [], 0⟩ (by kernel_rfl) ?_
        obtain rfl := Option.some.inj h
        refine RunC.finJ (Can.kp (by kernel_rfl))
       ·have h := ifF hb_26 hx_24
        refine RunC.auX 2 ⟨[(65, .d (.bool false))], [], 1, Fr.emp, [], 0⟩ (by kernel_rfl) ?_
        obtain rfl := Option.some.inj h
        refine RunC.finJ (Can.kp (by kernel_rfl))
      ·refine RW.au fokW 1 [] ⟨[(4, .d (.bool v2))], [], 1, Fr.emp, [], 0⟩ (by kernel_rfl) ?_
       refine RW.nil ?_
       refine hQ_23 _ ?_
       obtain rfl := Option.some.inj h
       exact AW.ret (hR_0 _ (retX (.cons (.tmp rfl) .nil) (.refl _) rfl (by kernel_rfl) (by kernel_rfl)))
     ·have h := ifF hb_22 h
      refine AW.skip ?_
      refine hK_20 _ ?_
      refine AW.srwK (fun Q_27 hQ_27 => ?_)
      refine RW.au fokW 2 [] ⟨[(2, .ptr 0 0), (5, .d (.sl 1 (List.map e3 r0_3))), (6, .d (I r1_3)), (66, .agg (cv25 b)), (67, .d (.sl 1 (List.map e3 bits)))], [(0, .var 25 (cv25 b))], 1, Fr.emp, [], 0⟩ (by kernel_rfl) ?_
      obtain ⟨r0, hx_28, h⟩ := bsome h
      refine RW.one fokW (r_call trivial rfl (k36 b bits _ hx_28) rfl rfl (r_end ?_))
      refine RW.au fokW 1 [] ⟨[(2, .ptr 0 0), (5, .d (.sl 1 (List.map e3 r0_3))), (6, .d (I r1_3)), (9, .d (.sl 1 (List.map e3 r0)))], [(0, .var 25 (cv25 b))], 1, Fr.emp, [], 0⟩ (by kernel_rfl) ?_
      refine RW.nil ?_
      refine hQ_27 _ ?_
      refine AW.srwK (fun Q_29 hQ_29 => ?_)
      refine RW.au fokW 2 [] ⟨[(2, .ptr 0 0), (5, .d (.sl 1 (List.map e3 r0_3))), (6, .d (I r1_3)), (9, .d (.sl 1 (List.map e3 r0))), (70, .agg (cv25 b)), (71, .d (.sl 1 (List.map e3 r0)))], [(0, .var 25 (cv25 b))], 1, Fr.emp, [], 0⟩ (by kernel_rfl) ?_
      obtain ⟨⟨r0_2_1, r1_4⟩, hx_30, h⟩ := bsome h
      refine RW.one fokW (r_call trivial rfl (k19 b r0 _ hx_30) rfl rfl (r_end ?_))
      refine RW.au fokW 5 [] ⟨[(2, .ptr 0 0), (5, .d (.sl 1 (List.map e3 r0_3))), (6, .d (I r1_3)), (9, .d (.sl 1 (List.map e3 r0))), (10, .d (.bool r0_2_1)), (11, .d (I r1_4))], [(0, .var 25 (cv25 b))], 1, Fr.emp, [], 0⟩ (by kernel_rfl) ?_
      refine RW.nil ?_
      refine hQ_29 _ ?_
      refine AW.seqK (fun K_31 hK_31 => ?_)
      refine AW.sa fokW [79, 77] ⟨[(2, .ptr 0 0), (5, .d (.sl 1 (List.map e3 r0_3))), (9, .d (.sl 1 (List.map e3 r0))), (10, .d (.bool r0_2_1)), (83, .d (.bool ((decide (r1_4 ≠ 0)) || (r0_2_1 && (decide (r1_3 ≠ 0))))))], [(0, .var 25 (cv25 b))], 1, Fr.emp, [], 0⟩ (by kernel_rfl) ?_
      refine AW.cond rfl (fun hb_32 => ?_) (fun hb_32 => ?_)
      ·have h := ifT hb_32 h
       refine AW.sa fokW [] ⟨[(4, .d (.bool false))], [], 1, Fr.emp, [], 0⟩ (by kernel_rfl) ?_
       obtain rfl := Option.some.inj h
       exact AW.ret (hR_0 _ (retX (.cons (.tmp rfl) .nil) (.refl _) rfl (by kernel_rfl) (by kernel_rfl)))
      ·have h := ifF hb_32 h
       refine AW.skip ?_
       refine hK_31 _ ?_
       refine AW.seqK (fun K_33 hK_33 => ?_)
       refine AW.sa fokW [] ⟨[(2, .ptr 0 0), (5, .d (.sl 1 (List.map e3 r0_3))), (9, .d (.sl 1 (List.map e3 r0))), (85, .d (.bool (!r0_2_1)))], [(0, .var 25 (cv25 b))], 1, Fr.emp, [], 0⟩ (by kernel_rfl) ?_
       refine AW.cond rfl (fun hb_34 => ?_) (fun hb_34 => ?_)
       ·have h := ifT hb_34 h
        refine AW.srwK (fun Q_35 hQ_35 => ?_)
        obtain ⟨r0_12_2, hx_36, h⟩ := bsome h
        refine RW.one fokW (r_call trivial rfl (k25 _ hx_36) rfl rfl (r_end ?_))
        refine RW.au fokW 1 [] ⟨[(4, .d (.bool r0_12_2))], [], 1, Fr.emp, [], 0⟩ (by kernel_rfl) ?_
        refine RW.nil ?_
        refine hQ_35 _ ?_
        obtain rfl := Option.some.inj h
        exact AW.ret (hR_0 _ (retX (.cons (.tmp rfl) .nil) (.refl _) rfl (by kernel_rfl) (by kernel_rfl)))
       ·have h := ifF hb_34 h
        refine AW.skip ?_
        refine hK_33 _ ?_
        refine AW.srwK (fun Q_37 hQ_37 => ?_)
        refine RW.au fokW 2 [] ⟨[(2, .ptr 0 0), (5, .d (.sl 1 (List.map e3 r0_3))), (9, .d (.sl 1 (List.map e3 r0))), (88, .agg (cv25 b)), (89, .d (.sl 1 (List.map e3 r0_3)))], [(0, .var 25 (cv25 b))], 1, Fr.emp, [], 0⟩ (by kernel_rfl) ?_
        obtain ⟨⟨r0_2_2, r1_4_1⟩, hx_38, h⟩ := bsome h
        refine RW.one fokW (r_call trivial rfl (k23 b r0_3 _ hx_38) rfl rfl (r_end ?_))
        refine RW.au fokW 6 [] ⟨[(2, .ptr 0 0), (5, .d (.sl 1 (List.map e3 r0_3))), (9, .d (.sl 1 (List.map e3 r0))), (12, .ptr 1 0), (13, .d (I r1_4_1))], [(1, .var 35 [.d (I r0_2_2.Low), .d (I r0_2_2.High)]), (0, .var 25 (cv25 b))], 2, Fr.emp, [], 0⟩ (by kernel_rfl) ?_
        refine RW.nil ?_
        refine hQ_37 _ ?_
        refine AW.srwK (fun Q_39 hQ_39 => ?_)
        refine RW.au fokW 2 [] ⟨[(5, .d (.sl 1 (List.map e3 r0_3))), (9, .d (.sl 1 (List.map e3 r0))), (12, .ptr 1 0), (13, .d (I r1_4_1)), (94, .agg (cv25 b)), (95, .d (.sl 1 (List.map e3 r0)))], [(1, .var 35 [.d (I r0_2_2.Low), .d (I r0_2_2.High)])], 2, Fr.emp, [], 0⟩ (by kernel_rfl) ?_
        obtain ⟨⟨r0_2_3, r1_4_2⟩, hx_40, h⟩ := bsome h
        refine RW.one fokW (r_call trivial rfl (k23 b r0 _ hx_40) rfl rfl (r_end ?_))
        refine RW.au fokW 6 [] ⟨[(5, .d (.sl 1 (List.map e3 r0_3))), (9, .d (.sl 1 (List.map e3 r0))), (12, .ptr 1 0), (13, .d (I r1_4_1)), (14, .ptr 2 0), (15, .d (I r1_4_2))], [(2, .var 35 [.d (I r0_2_3.Low), .d (I r0_2_3.High)]), (1, .var 35 [.d (I r0_2_2.Low), .d (I r0_2_2.High)])], 3, Fr.emp, [], 0⟩ (by kernel_rfl) ?_
        refine RW.nil ?_
        refine hQ_39 _ ?_
        refine AW.srwK (fun Q_41 hQ_41 => ?_)
        refine RW.au fokW 7 [101] ⟨[(5, .d (.sl 1 (List.map e3 r0_3))), (9, .d (.sl 1 (List.map e3 r0))), (12, .ptr 1 0), (14, .ptr 2 0), (105, .d (.bool ((decide (r1_4_1 = 0)) && (decide (r1_4_2 = 0)))))], [(2, .var 35 [.d (I r0_2_3.Low), .d (I r0_2_3.High)]), (1, .var 35 [.d (I r0_2_2.Low), .d (I r0_2_2.High)])], 3, Fr.emp, [], 0⟩ (by kernel_rfl) ?_
        obtain ⟨v3, hx_42, h⟩ := bsome h
        refine RW.cut fokW 19 (⟨[(124, .d (.bool v3))], [], 3, Fr.emp, [], 0⟩) ?_ ?_
        ·refine r_split 105 rfl (fun hb_46 => ?_) (fun hb_46 => ?_)
         ·have h := ifT hb_46 hx_42
          refine RunC.auX 6 ⟨[(5, .d (.sl 1 (List.map e3 r0_3))), (9, .d (.sl 1 (List.map e3 r0))), (12, .ptr 1 0), (14, .ptr 2 0), (105, .d (.bool true)), (111, .d (.bool (decide (r0_2_2.High < r0_2_3.High))))], [(2, .var 35 [.d (I r0_2_3.Low), .d (I r0_2_3.High)]), (1, .var 35 [.d (I r0_2_2.Low), .d (I r0_2_2.High)])], 3, Fr.emp, [], 0⟩ (by kernel_rfl) ?_
          refine r_split 111 rfl (fun hb_43 => ?_) (fun hb_43 => ?_)
          ·have h := ifT hb_43 h
           refine RunC.auX 13 ⟨[(124, .d (.bool true))], [(2, .var 35 [.d (I r0_2_3.Low), .d (I r0_2_3.High)]), (1, .var 35 [.d (I r0_2_2.Low), .d (I r0_2_2.High)])], 3, Fr.emp, [], 0⟩ (by kernel_rfl) ?_
           obtain rfl := Option.some.inj h
           refine RunC.finJ (Can.kp (by kernel_rfl))
          ·have h := ifF hb_43 h
           refine RunC.auX 6 ⟨[(5, .d (.sl 1 (List.map e3 r0_3))), (9, .d (.sl 1 (List.map e3 r0))), (105, .d (.bool true)), (111, .d (.bool false)), (117, .d (.bool (decide (r0_2_2.High = r0_2_3.High))))], [(2, .var 35 [.d (I r0_2_3.Low), .d (I r0_2_3.High)]), (1, .var 35 [.d (I r0_2_2.Low), .d (I r0_2_2.High)])], 3, Fr.emp, [], 0⟩ (by kernel_rfl) ?_
           refine r_split 117 rfl (fun hb_44 => ?_) (fun hb_44 => ?_)
           ·have h := ifT hb_44 h
            refine RunC.auX 2 ⟨[(105, .d (.bool true)), (111, .d (.bool false)), (117, .d (.bool true)), (118, .d (.sl 1 (List.map e3 r0))), (119, .d (.sl 1 (List.map e3 r0_3)))], [(2, .var 35 [.d (I r0_2_3.Low), .d (I r0_2_3.High)]), (1, .var 35 [.d (I r0_2_2.Low), .d (I r0_2_2.High)])], 3, Fr.emp, [], 0⟩ (by kernel_rfl) ?_
            obtain ⟨r0_1, hx_45, h⟩ := bsome h
            refine r_call rfl rfl (k45 r0 r0_3 _ hx_45) rfl rfl ?_
            refine RunC.auX 4 ⟨[(124, .d (.bool (!r0_1)))], [(2, .var 35 [.d (I r0_2_3.Low), .d (I r0_2_3.High)]), (1, .var 35 [.d (I r0_2_2.Low), .d (I r0_2_2.High)])], 3, Fr.emp, [], 0⟩ (by kernel_rfl) ?_
            obtain rfl := Option.some.inj h
            refine RunC.finJ (Can.kp (by kernel_rfl))
           ·have h := ifF hb_44 h
            refine RunC.auX 7 ⟨[(124, .d (.bool false))], [(2, .var 35 [.d (I r0_2_3.Low), .d (I r0_2_3.High)]), (1, .var 35 [.d (I r0_2_2.Low), .d (I r0_2_2.High)])], 3, Fr.emp, [], 0⟩ (by kernel_rfl) ?_
            obtain rfl := Option.some.inj h
            refine RunC.finJ (Can.kp (by kernel_rfl))
         ·have h := ifF hb_46 hx_42
          refine RunC.auX 19 ⟨[(124, .d (.bool false))], [(2, .var 35 [.d (I r0_2_3.Low), .d (I r0_2_3.High)]), (1, .var 35 [.d (I r0_2_2.Low), .d (I r0_2_2.High)])], 3, Fr.emp, [], 0⟩ (by kernel_rfl) ?_
          obtain rfl := Option.some.inj h
          refine RunC.finJ (Can.kp (by kernel_rfl))
        ·refine RW.au fokW 1 [] ⟨[(125, .d (.bool v3))], [], 3, Fr.emp, [], 0⟩ (by kernel_rfl) ?_
         obtain ⟨v4, hx_47, h⟩ := bsome h
         refine RW.cut fokW 2 (⟨[(127, .d (.bool v4))], [], 3, Fr.emp, [], 0⟩) ?_ ?_
         ·refine r_split 125 rfl (fun hb_49 => ?_) (fun hb_49 => ?_)
          ·have h := ifT hb_49 hx_47
           obtain ⟨r0_12_3, hx_48, h⟩ := bsome h
           refine r_call rfl rfl (k25 _ hx_48) rfl rfl ?_
           refine RunC.auX 1 ⟨[(127, .d (.bool r0_12_3))], [], 3, Fr.emp, [], 0⟩ (by kernel_rfl) ?_
           obtain rfl := Option.some.inj h
           refine RunC.finJ (Can.kp (by kernel_rfl))
          ·have h := ifF hb_49 hx_47
           refine RunC.auX 2 ⟨[(127, .d (.bool false))], [], 3, Fr.emp, [], 0⟩ (by kernel_rfl) ?_
           obtain rfl := Option.some.inj h
           refine RunC.finJ (Can.kp (by kernel_rfl))
         ·refine RW.au fokW 1 [] ⟨[(4, .d (.bool v4))], [], 3, Fr.emp, [], 0⟩ (by kernel_rfl) ?_
          refine RW.nil ?_
          refine hQ_41 _ ?_
          obtain rfl := Option.some.inj h
          exact AW.ret (hR_0 _ (retX (.cons (.tmp rfl) .nil) (.refl _) rfl (by kernel_rfl) (by kernel_rfl)))
end Go.Proofs.Th
