/- Told functions, and that the program does so, part 3. Conditions: none. -/
import Derived.Test.YtonjadhpjkbhnaaDoorTdb
set_option linter.unusedVariables false
set_option linter.unusedSimpArgs false
namespace Go.Proofs.Th
open Go Go.Abs Go.Proofs
def g35_18 (b : HairBook) : (Bool × Int) → Option (Ctl (Bool × Int) (Bool)) := fun  (ok2, i) => (bif ok2 then (some (decide (i < (b.Hanks.length : Int)))) else (some false)).bind fun v5 => bif v5 then ((ixL b.Hanks i).bind fun p => (g64 p.Weight 1 60).bind fun r0_3 => (bif r0_3 then ((g64 p.Shade 0 20).bind fun r0_4 => some r0_4) else (some false)).bind fun v6 => some (.next (v6, (wr (i + 1))))) else (some (.brk ok2))
def g35_33 (b : HairBook) : (Bool × Int) → Option (Ctl (Bool × Int) (Bool)) := fun  (ok5, i1) => (bif ok5 then (some (decide (i1 < (b.Horses.length : Int)))) else (some false)).bind fun v7 => bif v7 then ((ixL b.Horses i1).bind fun p1 => (g50 p1.Mane 1 30).bind fun r0_5 => (bif r0_5 then ((g50 p1.Tail 1 30).bind fun r0_6 => some r0_6) else (some false)).bind fun v8 => some (.next (v8, (wr (i1 + 1))))) else (some (.brk ok5))
def g35 (b : HairBook) : Option Bool := (g17 b).bind fun r0_9 => (bif (decide (r0_9 = 0)) then (some (decide ((b.Hanks.length : Int) ≤ 4))) else (some false)).bind fun v => (bif v then (some (decide ((b.Horses.length : Int) ≤ 3))) else (some false)).bind fun v1 => (bif v1 then ((g50 b.Dark 0 4).bind fun r0 => some r0) else (some false)).bind fun v2 => (bif v2 then ((g50 b.Near 0 3).bind fun r0_1 => some r0_1) else (some false)).bind fun v3 => (bif v3 then ((g50 b.Match 0 3).bind fun r0_2 => some r0_2) else (some false)).bind fun v4 => ((whileC (g35_18 b) 1000 (v4, 0)).bind fun ok1 => some ok1).bind fun ok => ((whileC (g35_33 b) 1000 (ok, 0)).bind fun ok4 => some ok4).bind fun ok3 => some ok3
theorem k35 (b : HairBook) (r : Bool) (h : g35 b = some r) : SCall Tryd.prog Gs 35 [.agg (cv25 b)] [] 0 Fr.emp (.d (.bool r)) [] 0 Fr.emp := by
 unfold g35 at h
 refine SCall.mkK Tryd.func35 c35 rfl rfl (by kernel_rfl) (fun Q_0 hR_0 hN_0 => ?_)
 refine AW.sa fokW [] ⟨[(1, .ptr 0 0)], [(0, .var 25 (cv25 b))], 1, Fr.emp, [], 0⟩ (by kernel_rfl) ?_
 refine AW.srwK (fun Q_1 hQ_1 => ?_)
 refine RW.au fokW 1 [] ⟨[(1, .ptr 0 0), (7, .agg (cv25 b))], [(0, .var 25 (cv25 b))], 1, Fr.emp, [], 0⟩ (by kernel_rfl) ?_
 obtain ⟨r0_9, hx_2, h⟩ := bsome h
 refine RW.one fokW (r_call trivial rfl (k17 b _ hx_2) rfl rfl (r_end ?_))
 refine RW.au fokW 2 [] ⟨[(1, .ptr 0 0), (10, .d (.bool (decide (r0_9 = 0))))], [(0, .var 25 (cv25 b))], 1, Fr.emp, [], 0⟩ (by kernel_rfl) ?_
 obtain ⟨v, hx_3, h⟩ := bsome h
 refine RW.cut fokW 5 (⟨[(1, .ptr 0 0), (15, .d (.bool v))], [(0, .var 25 (cv25 b))], 1, Fr.emp, [], 0⟩) ?_ ?_
 ·refine r_split 10 rfl (fun hb_4 => ?_) (fun hb_4 => ?_)
  ·have h := ifT hb_4 hx_3
   refine RunC.auX 2 ⟨[(1, .ptr 0 0), (10, .d (.bool true)), (12, .d (.sl 4 (List.map e58 b.Hanks)))], [(0, .var 25 (cv25 b))], 1, Fr.emp, [], 0⟩ (by kernel_rfl) ?_
   refine r_lenX rfl rfl lenm ?_
   refine RunC.auX 2 ⟨[(1, .ptr 0 0), (15, .d (.bool (decide ((b.Hanks.length : Int) ≤ 4))))], [(0, .var 25 (cv25 b))], 1, Fr.emp, [], 0⟩ (by kernel_rfl) ?_
   obtain rfl := Option.some.inj h
   refine RunC.finJ (Can.kp (by kernel_rfl))
  ·have h := ifF hb_4 hx_3
   refine RunC.auX 5 ⟨[(1, .ptr 0 0), (15, .d (.bool false))], [(0, .var 25 (cv25 b))], 1, Fr.emp, [], 0⟩ (by kernel_rfl) ?_
   obtain rfl := Option.some.inj h
   refine RunC.finJ (Can.kp (by kernel_rfl))
 ·refine RW.au fokW 1 [] ⟨[(1, .ptr 0 0), (16, .d (.bool v))], [(0, .var 25 (cv25 b))], 1, Fr.emp, [], 0⟩ (by kernel_rfl) ?_
  obtain ⟨v1, hx_5, h⟩ := bsome h
  refine RW.cut fokW 5 (⟨[(1, .ptr 0 0), (21, .d (.bool v1))], [(0, .var 25 (cv25 b))], 1, Fr.emp, [], 0⟩) ?_ ?_
  ·refine r_split 16 rfl (fun hb_6 => ?_) (fun hb_6 => ?_)
   ·have h := ifT hb_6 hx_5
    refine RunC.auX 2 ⟨[(1, .ptr 0 0), (16, .d (.bool true)), (18, .d (.sl 3 (List.map e69 b.Horses)))], [(0, .var 25 (cv25 b))], 1, Fr.emp, [], 0⟩ (by kernel_rfl) ?_
    refine r_lenX rfl rfl lenm ?_
    refine RunC.auX 2 ⟨[(1, .ptr 0 0), (21, .d (.bool (decide ((b.Horses.length : Int) ≤ 3))))], [(0, .var 25 (cv25 b))], 1, Fr.emp, [], 0⟩ (by kernel_rfl) ?_
    obtain rfl := Option.some.inj h
    refine RunC.finJ (Can.kp (by kernel_rfl))
   ·have h := ifF hb_6 hx_5
    refine RunC.auX 5 ⟨[(1, .ptr 0 0), (21, .d (.bool false))], [(0, .var 25 (cv25 b))], 1, Fr.emp, [], 0⟩ (by kernel_rfl) ?_
    obtain rfl := Option.some.inj h
    refine RunC.finJ (Can.kp (by kernel_rfl))
  ·refine RW.au fokW 1 [] ⟨[(1, .ptr 0 0), (22, .d (.bool v1))], [(0, .var 25 (cv25 b))], 1, Fr.emp, [], 0⟩ (by kernel_rfl) ?_
   obtain ⟨v2, hx_7, h⟩ := bsome h
   refine RW.cut fokW 4 (⟨[(1, .ptr 0 0), (26, .d (.bool v2))], [(0, .var 25 (cv25 b))], 1, Fr.emp, [], 0⟩) ?_ ?_
   ·refine r_split 22 rfl (fun hb_9 => ?_) (fun hb_9 => ?_)
    ·have h := ifT hb_9 hx_7
     refine RunC.auX 2 ⟨[(1, .ptr 0 0), (22, .d (.bool true)), (24, .d (I b.Dark))], [(0, .var 25 (cv25 b))], 1, Fr.emp, [], 0⟩ (by kernel_rfl) ?_
     obtain ⟨r0, hx_8, h⟩ := bsome h
     refine r_call rfl rfl (k50 b.Dark 0 4 _ hx_8) rfl rfl ?_
     refine RunC.auX 1 ⟨[(1, .ptr 0 0), (26, .d (.bool r0))], [(0, .var 25 (cv25 b))], 1, Fr.emp, [], 0⟩ (by kernel_rfl) ?_
     obtain rfl := Option.some.inj h
     refine RunC.finJ (Can.kp (by kernel_rfl))
    ·have h := ifF hb_9 hx_7
     refine RunC.auX 4 ⟨[(1, .ptr 0 0), (26, .d (.bool false))], [(0, .var 25 (cv25 b))], 1, Fr.emp, [], 0⟩ (by kernel_rfl) ?_
     obtain rfl := Option.some.inj h
     refine RunC.finJ (Can.kp (by kernel_rfl))
   ·refine RW.au fokW 1 [] ⟨[(1, .ptr 0 0), (27, .d (.bool v2))], [(0, .var 25 (cv25 b))], 1, Fr.emp, [], 0⟩ (by kernel_rfl) ?_
    obtain ⟨v3, hx_10, h⟩ := bsome h
    refine RW.cut fokW 4 (⟨[(1, .ptr 0 0), (31, .d (.bool v3))], [(0, .var 25 (cv25 b))], 1, Fr.emp, [], 0⟩) ?_ ?_
    ·refine r_split 27 rfl (fun hb_12 => ?_) (fun hb_12 => ?_)
     ·have h := ifT hb_12 hx_10
      refine RunC.auX 2 ⟨[(1, .ptr 0 0), (27, .d (.bool true)), (29, .d (I b.Near))], [(0, .var 25 (cv25 b))], 1, Fr.emp, [], 0⟩ (by kernel_rfl) ?_
      obtain ⟨r0_1, hx_11, h⟩ := bsome h
      refine r_call rfl rfl (k50 b.Near 0 3 _ hx_11) rfl rfl ?_
      refine RunC.auX 1 ⟨[(1, .ptr 0 0), (31, .d (.bool r0_1))], [(0, .var 25 (cv25 b))], 1, Fr.emp, [], 0⟩ (by kernel_rfl) ?_
      obtain rfl := Option.some.inj h
      refine RunC.finJ (Can.kp (by kernel_rfl))
     ·have h := ifF hb_12 hx_10
      refine RunC.auX 4 ⟨[(1, .ptr 0 0), (31, .d (.bool false))], [(0, .var 25 (cv25 b))], 1, Fr.emp, [], 0⟩ (by kernel_rfl) ?_
      obtain rfl := Option.some.inj h
      refine RunC.finJ (Can.kp (by kernel_rfl))
    ·refine RW.au fokW 1 [] ⟨[(1, .ptr 0 0), (32, .d (.bool v3))], [(0, .var 25 (cv25 b))], 1, Fr.emp, [], 0⟩ (by kernel_rfl) ?_
     obtain ⟨v4, hx_13, h⟩ := bsome h
     refine RW.cut fokW 4 (⟨[(1, .ptr 0 0), (36, .d (.bool v4))], [(0, .var 25 (cv25 b))], 1, Fr.emp, [], 0⟩) ?_ ?_
     ·refine r_split 32 rfl (fun hb_15 => ?_) (fun hb_15 => ?_)
      ·have h := ifT hb_15 hx_13
       refine RunC.auX 2 ⟨[(1, .ptr 0 0), (32, .d (.bool true)), (34, .d (I b.Match))], [(0, .var 25 (cv25 b))], 1, Fr.emp, [], 0⟩ (by kernel_rfl) ?_
       obtain ⟨r0_2, hx_14, h⟩ := bsome h
       refine r_call rfl rfl (k50 b.Match 0 3 _ hx_14) rfl rfl ?_
       refine RunC.auX 1 ⟨[(1, .ptr 0 0), (36, .d (.bool r0_2))], [(0, .var 25 (cv25 b))], 1, Fr.emp, [], 0⟩ (by kernel_rfl) ?_
       obtain rfl := Option.some.inj h
       refine RunC.finJ (Can.kp (by kernel_rfl))
      ·have h := ifF hb_15 hx_13
       refine RunC.auX 4 ⟨[(1, .ptr 0 0), (36, .d (.bool false))], [(0, .var 25 (cv25 b))], 1, Fr.emp, [], 0⟩ (by kernel_rfl) ?_
       obtain rfl := Option.some.inj h
       refine RunC.finJ (Can.kp (by kernel_rfl))
     ·refine RW.au fokW 1 [] ⟨[(1, .ptr 0 0), (3, .d (.bool v4))], [(0, .var 25 (cv25 b))], 1, Fr.emp, [], 0⟩ (by kernel_rfl) ?_
      refine RW.nil ?_
      refine hQ_1 _ ?_
      obtain ⟨ok, hx_16, h⟩ := bsome h
      refine AW.jnSK (fun (ok : Bool) => ⟨[(1, .ptr 0 0), (3, .d (.bool ok))], [(0, .var 25 (cv25 b))], 1, Fr.emp, [], 0⟩) (c := ok) (fun K_16 hK_16 => ?_) ?_
      ·have h := hx_16
       refine AW.sa fokW [] ⟨[(1, .ptr 0 0), (3, .d (.bool v4)), (4, .d (I 0))], [(0, .var 25 (cv25 b))], 1, Fr.emp, [], 0⟩ (by kernel_rfl) ?_
       obtain ⟨ok1, hx_17, h⟩ := bsome h
       refine AW.jqSK (fun (ok1 : Bool) => ⟨[(1, .ptr 0 0), (3, .d (.bool ok1))], [(0, .var 25 (cv25 b))], 1, Fr.emp, [], 0⟩) (c := ok1) (fun K_17 hK_17 => ?_) ?_
       ·have h := hx_17
        refine AW.block ?_
        refine AW.whK (fun (⟨ok2, i⟩ : Bool × Int) => ⟨[(1, .ptr 0 0), (3, .d (.bool ok2)), (4, .d (I i))], [(0, .var 25 (cv25 b))], 1, Fr.emp, [], 0⟩) (g35_18 b) h (Can.kp (by kernel_rfl)) (fun s_18 c_18 h hb_18 K_18 hK_18 => ?_)
        obtain ⟨ok2, i⟩ := s_18
        unfold g35_18 at h
        refine AW.seqK (fun K_19 hK_19 => ?_)
        refine AW.srwK (fun Q_20 hQ_20 => ?_)
        refine RW.au fokW 2 [] ⟨[(1, .ptr 0 0), (3, .d (.bool ok2)), (4, .d (I i)), (38, .d (.bool ok2))], [(0, .var 25 (cv25 b))], 1, Fr.emp, [], 0⟩ (by kernel_rfl) ?_
        obtain ⟨v5, hx_21, h⟩ := bsome h
        refine RW.cut fokW 6 (⟨[(1, .ptr 0 0), (3, .d (.bool ok2)), (4, .d (I i)), (44, .d (.bool v5))], [(0, .var 25 (cv25 b))], 1, Fr.emp, [], 0⟩) ?_ ?_
        ·refine r_split 38 rfl (fun hb_22 => ?_) (fun hb_22 => ?_)
         ·have h := ifT hb_22 hx_21
          refine RunC.auX 3 ⟨[(1, .ptr 0 0), (3, .d (.bool ok2)), (4, .d (I i)), (38, .d (.bool true)), (39, .d (I i)), (41, .d (.sl 4 (List.map e58 b.Hanks)))], [(0, .var 25 (cv25 b))], 1, Fr.emp, [], 0⟩ (by kernel_rfl) ?_
          refine r_lenX rfl rfl lenm ?_
          refine RunC.auX 2 ⟨[(1, .ptr 0 0), (3, .d (.bool ok2)), (4, .d (I i)), (44, .d (.bool (decide (i < (b.Hanks.length : Int)))))], [(0, .var 25 (cv25 b))], 1, Fr.emp, [], 0⟩ (by kernel_rfl) ?_
          obtain rfl := Option.some.inj h
          refine RunC.finJ (Can.kp (by kernel_rfl))
         ·have h := ifF hb_22 hx_21
          refine RunC.auX 6 ⟨[(1, .ptr 0 0), (3, .d (.bool ok2)), (4, .d (I i)), (44, .d (.bool false))], [(0, .var 25 (cv25 b))], 1, Fr.emp, [], 0⟩ (by kernel_rfl) ?_
          obtain rfl := Option.some.inj h
          refine RunC.finJ (Can.kp (by kernel_rfl))
        ·refine RW.nil ?_
         refine hQ_20 _ ?_
         refine AW.cond rfl (fun hb_23 => ?_) (fun hb_23 => ?_)
         ·have h := ifT hb_23 h
          refine AW.skip ?_
          refine hK_19 _ ?_
          refine AW.seqK (fun K_24 hK_24 => ?_)
          refine AW.block ?_
          refine AW.rw ?_
          refine RW.au fokW 3 [] ⟨[(1, .ptr 0 0), (4, .d (I i)), (48, .d (.sl 4 (List.map e58 b.Hanks))), (49, .d (I i))], [(0, .var 25 (cv25 b))], 1, Fr.emp, [], 0⟩ (by kernel_rfl) ?_
          obtain ⟨p, hv_26, h⟩ := bsome h
          refine RW.one fokW (r_iaD trivial rfl rfl (ixL_ok hv_26).1 (row := e58 p) (mapget (ixL_ok hv_26).2) (r_end ?_))
          refine RW.au fokW 2 [] ⟨[(1, .ptr 0 0), (4, .d (I i)), (52, .agg [.d (I p.Weight.Low), .d (I p.Weight.High)])], [(0, .var 25 (cv25 b))], 1, Fr.emp, [], 0⟩ (by kernel_rfl) ?_
          obtain ⟨r0_3, hx_27, h⟩ := bsome h
          refine RW.one fokW (r_call trivial rfl (k64 p.Weight 1 60 _ hx_27) rfl rfl (r_end ?_))
          refine RW.au fokW 1 [] ⟨[(1, .ptr 0 0), (4, .d (I i)), (54, .d (.bool r0_3))], [(0, .var 25 (cv25 b))], 1, Fr.emp, [], 0⟩ (by kernel_rfl) ?_
          obtain ⟨v6, hx_28, h⟩ := bsome h
          refine RW.cut fokW 8 (⟨[(1, .ptr 0 0), (4, .d (I i)), (62, .d (.bool v6))], [(0, .var 25 (cv25 b))], 1, Fr.emp, [], 0⟩) ?_ ?_
          ·refine r_split 54 rfl (fun hb_30 => ?_) (fun hb_30 => ?_)
           ·have h := ifT hb_30 hx_28
            refine RunC.auX 3 ⟨[(1, .ptr 0 0), (4, .d (I i)), (54, .d (.bool true)), (56, .d (.sl 4 (List.map e58 b.Hanks))), (57, .d (I i))], [(0, .var 25 (cv25 b))], 1, Fr.emp, [], 0⟩ (by kernel_rfl) ?_
            refine r_iaD rfl rfl rfl (ixL_ok hv_26).1 (row := e58 p) (mapget (ixL_ok hv_26).2) ?_
            refine RunC.auX 2 ⟨[(1, .ptr 0 0), (4, .d (I i)), (54, .d (.bool true)), (60, .agg [.d (I p.Shade.Low), .d (I p.Shade.High)])], [(0, .var 25 (cv25 b))], 1, Fr.emp, [], 0⟩ (by kernel_rfl) ?_
            obtain ⟨r0_4, hx_29, h⟩ := bsome h
            refine r_call rfl rfl (k64 p.Shade 0 20 _ hx_29) rfl rfl ?_
            refine RunC.auX 1 ⟨[(1, .ptr 0 0), (4, .d (I i)), (62, .d (.bool r0_4))], [(0, .var 25 (cv25 b))], 1, Fr.emp, [], 0⟩ (by kernel_rfl) ?_
            obtain rfl := Option.some.inj h
            refine RunC.finJ (Can.kp (by kernel_rfl))
           ·have h := ifF hb_30 hx_28
            refine RunC.auX 8 ⟨[(1, .ptr 0 0), (4, .d (I i)), (62, .d (.bool false))], [(0, .var 25 (cv25 b))], 1, Fr.emp, [], 0⟩ (by kernel_rfl) ?_
            obtain rfl := Option.some.inj h
            refine RunC.finJ (Can.kp (by kernel_rfl))
          ·refine RW.au fokW 1 [] ⟨[(1, .ptr 0 0), (3, .d (.bool v6)), (4, .d (I i))], [(0, .var 25 (cv25 b))], 1, Fr.emp, [], 0⟩ (by kernel_rfl) ?_
           refine RW.nil ?_
           refine hK_24 _ ?_
           refine AW.ra fokW [] ⟨[(1, .ptr 0 0), (3, .d (.bool v6)), (4, .d (I (wr (i + 1))))], [(0, .var 25 (cv25 b))], 1, Fr.emp, [], 0⟩ (by kernel_rfl) ?_
           obtain rfl := Option.some.inj h
           exact hK_18 _ _ rfl (Can.kp (by kernel_rfl))
         ·have h := ifF hb_23 h
          refine AW.exit ?_
          obtain rfl := Option.some.inj h
          obtain rfl := hb_18 _ rfl
          exact hK_17 _ (Can.kp (by kernel_rfl))
       ·obtain rfl := Option.some.inj h
        exact hK_16 _ (Can.kp (by kernel_rfl))
      ·obtain ⟨ok3, hx_31, h⟩ := bsome h
       refine AW.jnSK (fun (ok3 : Bool) => ⟨[(3, .d (.bool ok3))], [], 1, Fr.emp, [], 0⟩) (c := ok3) (fun K_31 hK_31 => ?_) ?_
       ·have h := hx_31
        refine AW.sa fokW [] ⟨[(1, .ptr 0 0), (3, .d (.bool ok)), (5, .d (I 0))], [(0, .var 25 (cv25 b))], 1, Fr.emp, [], 0⟩ (by kernel_rfl) ?_
        obtain ⟨ok4, hx_32, h⟩ := bsome h
        refine AW.jqSK (fun (ok4 : Bool) => ⟨[(3, .d (.bool ok4))], [], 1, Fr.emp, [], 0⟩) (c := ok4) (fun K_32 hK_32 => ?_) ?_
        ·have h := hx_32
         refine AW.block ?_
         refine AW.whK (fun (⟨ok5, i1⟩ : Bool × Int) => ⟨[(1, .ptr 0 0), (3, .d (.bool ok5)), (5, .d (I i1))], [(0, .var 25 (cv25 b))], 1, Fr.emp, [], 0⟩) (g35_33 b) h (Can.kp (by kernel_rfl)) (fun s_33 c_33 h hb_33 K_33 hK_33 => ?_)
         obtain ⟨ok5, i1⟩ := s_33
         unfold g35_33 at h
         refine AW.seqK (fun K_34 hK_34 => ?_)
         refine AW.srwK (fun Q_35 hQ_35 => ?_)
         refine RW.au fokW 2 [] ⟨[(1, .ptr 0 0), (3, .d (.bool ok5)), (5, .d (I i1)), (64, .d (.bool ok5))], [(0, .var 25 (cv25 b))], 1, Fr.emp, [], 0⟩ (by kernel_rfl) ?_
         obtain ⟨v7, hx_36, h⟩ := bsome h
         refine RW.cut fokW 6 (⟨[(1, .ptr 0 0), (3, .d (.bool ok5)), (5, .d (I i1)), (70, .d (.bool v7))], [(0, .var 25 (cv25 b))], 1, Fr.emp, [], 0⟩) ?_ ?_
         ·refine r_split 64 rfl (fun hb_37 => ?_) (fun hb_37 => ?_)
          ·have h := ifT hb_37 hx_36
           refine RunC.auX 3 ⟨[(1, .ptr 0 0), (3, .d (.bool ok5)), (5, .d (I i1)), (64, .d (.bool true)), (65, .d (I i1)), (67, .d (.sl 3 (List.map e69 b.Horses)))], [(0, .var 25 (cv25 b))], 1, Fr.emp, [], 0⟩ (by kernel_rfl) ?_
           refine r_lenX rfl rfl lenm ?_
           refine RunC.auX 2 ⟨[(1, .ptr 0 0), (3, .d (.bool ok5)), (5, .d (I i1)), (70, .d (.bool (decide (i1 < (b.Horses.length : Int)))))], [(0, .var 25 (cv25 b))], 1, Fr.emp, [], 0⟩ (by kernel_rfl) ?_
           obtain rfl := Option.some.inj h
           refine RunC.finJ (Can.kp (by kernel_rfl))
          ·have h := ifF hb_37 hx_36
           refine RunC.auX 6 ⟨[(1, .ptr 0 0), (3, .d (.bool ok5)), (5, .d (I i1)), (70, .d (.bool false))], [(0, .var 25 (cv25 b))], 1, Fr.emp, [], 0⟩ (by kernel_rfl) ?_
           obtain rfl := Option.some.inj h
           refine RunC.finJ (Can.kp (by kernel_rfl))
         ·refine RW.nil ?_
          refine hQ_35 _ ?_
          refine AW.cond rfl (fun hb_38 => ?_) (fun hb_38 => ?_)
          ·have h := ifT hb_38 h
           refine AW.skip ?_
           refine hK_34 _ ?_
           refine AW.seqK (fun K_39 hK_39 => ?_)
           refine AW.block ?_
           refine AW.srwK (fun Q_40 hQ_40 => ?_)
           refine RW.au fokW 3 [] ⟨[(1, .ptr 0 0), (5, .d (I i1)), (74, .d (.sl 3 (List.map e69 b.Horses))), (75, .d (I i1))], [(0, .var 25 (cv25 b))], 1, Fr.emp, [], 0⟩ (by kernel_rfl) ?_
           obtain ⟨p1, hv_41, h⟩ := bsome h
           refine RW.one fokW (r_iaD trivial rfl rfl (ixL_ok hv_41).1 (row := e69 p1) (mapget (ixL_ok hv_41).2) (r_end ?_))
           refine RW.au fokW 3 [] ⟨[(1, .ptr 0 0), (5, .d (I i1)), (6, .ptr 1 0)], [(1, .var 69 [.d (I p1.Mane), .d (I p1.Tail), .d (I p1.Shade)]), (0, .var 25 (cv25 b))], 2, Fr.emp, [], 0⟩ (by kernel_rfl) ?_
           refine RW.nil ?_
           refine hQ_40 _ ?_
           refine AW.rw ?_
           refine RW.au fokW 2 [] ⟨[(1, .ptr 0 0), (5, .d (I i1)), (6, .ptr 1 0), (79, .d (I p1.Mane))], [(1, .var 69 [.d (I p1.Mane), .d (I p1.Tail), .d (I p1.Shade)]), (0, .var 25 (cv25 b))], 2, Fr.emp, [], 0⟩ (by kernel_rfl) ?_
           obtain ⟨r0_5, hx_43, h⟩ := bsome h
           refine RW.one fokW (r_call trivial rfl (k50 p1.Mane 1 30 _ hx_43) rfl rfl (r_end ?_))
           refine RW.au fokW 1 [] ⟨[(1, .ptr 0 0), (5, .d (I i1)), (6, .ptr 1 0), (81, .d (.bool r0_5))], [(1, .var 69 [.d (I p1.Mane), .d (I p1.Tail), .d (I p1.Shade)]), (0, .var 25 (cv25 b))], 2, Fr.emp, [], 0⟩ (by kernel_rfl) ?_
           obtain ⟨v8, hx_44, h⟩ := bsome h
           refine RW.cut fokW 4 (⟨[(1, .ptr 0 0), (5, .d (I i1)), (85, .d (.bool v8))], [(0, .var 25 (cv25 b))], 2, Fr.emp, [], 0⟩) ?_ ?_
           ·refine r_split 81 rfl (fun hb_46 => ?_) (fun hb_46 => ?_)
            ·have h := ifT hb_46 hx_44
             refine RunC.auX 2 ⟨[(1, .ptr 0 0), (5, .d (I i1)), (81, .d (.bool true)), (83, .d (I p1.Tail))], [(1, .var 69 [.d (I p1.Mane), .d (I p1.Tail), .d (I p1.Shade)]), (0, .var 25 (cv25 b))], 2, Fr.emp, [], 0⟩ (by kernel_rfl) ?_
             obtain ⟨r0_6, hx_45, h⟩ := bsome h
             refine r_call rfl rfl (k50 p1.Tail 1 30 _ hx_45) rfl rfl ?_
             refine RunC.auX 1 ⟨[(1, .ptr 0 0), (5, .d (I i1)), (85, .d (.bool r0_6))], [(1, .var 69 [.d (I p1.Mane), .d (I p1.Tail), .d (I p1.Shade)]), (0, .var 25 (cv25 b))], 2, Fr.emp, [], 0⟩ (by kernel_rfl) ?_
             obtain rfl := Option.some.inj h
             refine RunC.finJ (Can.kp (by kernel_rfl))
            ·have h := ifF hb_46 hx_44
             refine RunC.auX 4 ⟨[(1, .ptr 0 0), (5, .d (I i1)), (85, .d (.bool false))], [(1, .var 69 [.d (I p1.Mane), .d (I p1.Tail), .d (I p1.Shade)]), (0, .var 25 (cv25 b))], 2, Fr.emp, [], 0⟩ (by kernel_rfl) ?_
             obtain rfl := Option.some.inj h
             refine RunC.finJ (Can.kp (by kernel_rfl))
           ·refine RW.au fokW 1 [] ⟨[(1, .ptr 0 0), (3, .d (.bool v8)), (5, .d (I i1))], [(0, .var 25 (cv25 b))], 2, Fr.emp, [], 0⟩ (by kernel_rfl) ?_
            refine RW.nil ?_
            refine hK_39 _ ?_
            refine AW.ra fokW [] ⟨[(1, .ptr 0 0), (3, .d (.bool v8)), (5, .d (I (wr (i1 + 1))))], [(0, .var 25 (cv25 b))], 2, Fr.emp, [], 0⟩ (by kernel_rfl) ?_
            obtain rfl := Option.some.inj h
            exact hK_33 _ _ rfl (Can.kp (by kernel_rfl))
          ·have h := ifF hb_38 h
           refine AW.exit ?_
           obtain rfl := Option.some.inj h
           obtain rfl := hb_33 _ rfl
           exact hK_32 _ (Can.kp (by kernel_rfl))
        ·obtain rfl := Option.some.inj h
         exact hK_31 _ (Can.kp (by kernel_rfl))
       ·refine AW.sa fokW [] ⟨[(2, .d (.bool ok3))], [], 1, Fr.emp, [], 0⟩ (by kernel_rfl) ?_
        obtain rfl := Option.some.inj h
        exact AW.ret (hR_0 _ (retX (.cons (.tmp rfl) .nil) (.refl _) rfl (by kernel_rfl) (by kernel_rfl)))
def g39 (n : Int) (many : Int) : Option Int := bif (decide (many < 1)) then (some 0) else ((must (decide (many ≠ 0))).bind fun _ => bif (decide ((n.tmod many) < 0)) then (some (wr ((n.tmod many) + many))) else (some (n.tmod many)))
theorem k39 (n : Int) (many : Int) (r : Int) (h : g39 n many = some r) : SCall Tryd.prog Gs 39 [.d (I n), .d (I many)] [] 0 Fr.emp (.d (I r)) [] 0 Fr.emp := by
 unfold g39 at h
 refine SCall.mkK Tryd.func39 c39 rfl rfl (by kernel_rfl) (fun Q_0 hR_0 hN_0 => ?_)
 refine AW.sa fokW [] ⟨[(0, .d (I n)), (1, .d (I many))], [], 0, Fr.emp, [], 0⟩ (by kernel_rfl) ?_
 refine AW.seqK (fun K_1 hK_1 => ?_)
 refine AW.sa fokW [] ⟨[(0, .d (I n)), (1, .d (I many)), (7, .d (.bool (decide (many < 1))))], [], 0, Fr.emp, [], 0⟩ (by kernel_rfl) ?_
 refine AW.cond rfl (fun hb_2 => ?_) (fun hb_2 => ?_)
 ·have h := ifT hb_2 h
  refine AW.sa fokW [] ⟨[(4, .d (I 0))], [], 0, Fr.emp, [], 0⟩ (by kernel_rfl) ?_
  obtain rfl := Option.some.inj h
  exact AW.ret (hR_0 _ (retX (.cons (.tmp rfl) .nil) (.refl _) rfl (by kernel_rfl) (by kernel_rfl)))
 ·have h := ifF hb_2 h
  refine AW.skip ?_
  refine hK_1 _ ?_
  refine AW.srwK (fun Q_3 hQ_3 => ?_)
  refine RW.au fokW 2 [] ⟨[(1, .d (I many)), (8, .d (I n)), (9, .d (I many))], [], 0, Fr.emp, [], 0⟩ (by kernel_rfl) ?_
  obtain ⟨_, hv_4, h⟩ := bsome h
  refine RW.one fokW (r_rem trivial rfl rfl (of_decide_eq_true (must_ok hv_4)) (r_end ?_))
  refine RW.au fokW 1 [] ⟨[(1, .d (I many)), (5, .d (I (n.tmod many)))], [], 0, Fr.emp, [], 0⟩ (by kernel_rfl) ?_
  refine RW.nil ?_
  refine hQ_3 _ ?_
  refine AW.seqK (fun K_5 hK_5 => ?_)
  refine AW.sa fokW [] ⟨[(1, .d (I many)), (5, .d (I (n.tmod many))), (12, .d (.bool (decide ((n.tmod many) < 0))))], [], 0, Fr.emp, [], 0⟩ (by kernel_rfl) ?_
  refine AW.cond rfl (fun hb_6 => ?_) (fun hb_6 => ?_)
  ·have h := ifT hb_6 h
   refine AW.ra fokW [] ⟨[(5, .d (I (wr ((n.tmod many) + many))))], [], 0, Fr.emp, [], 0⟩ (by kernel_rfl) ?_
   refine hK_5 _ ?_
   refine AW.sa fokW [] ⟨[(4, .d (I (wr ((n.tmod many) + many))))], [], 0, Fr.emp, [], 0⟩ (by kernel_rfl) ?_
   obtain rfl := Option.some.inj h
   exact AW.ret (hR_0 _ (retX (.cons (.tmp rfl) .nil) (.refl _) rfl (by kernel_rfl) (by kernel_rfl)))
  ·have h := ifF hb_6 h
   refine AW.skip ?_
   refine hK_5 _ ?_
   refine AW.sa fokW [] ⟨[(4, .d (I (n.tmod many)))], [], 0, Fr.emp, [], 0⟩ (by kernel_rfl) ?_
   obtain rfl := Option.some.inj h
   exact AW.ret (hR_0 _ (retX (.cons (.tmp rfl) .nil) (.refl _) rfl (by kernel_rfl) (by kernel_rfl)))
def g52 (n : Int) (m : Int) (most : Int) : Option Bool := (g50 (wr (n - m)) (wr (-most)) most).bind fun r0 => some r0
theorem k52 (n : Int) (m : Int) (most : Int) (r : Bool) (h : g52 n m most = some r) : SCall Tryd.prog Gs 52 [.d (I n), .d (I m), .d (I most)] [] 0 Fr.emp (.d (.bool r)) [] 0 Fr.emp := by
 unfold g52 at h
 refine SCall.mkK Tryd.func52 c52 rfl rfl (by kernel_rfl) (fun Q_0 hR_0 hN_0 => ?_)
 refine AW.sa fokW [] ⟨[(0, .d (I n)), (1, .d (I m)), (2, .d (I most))], [], 0, Fr.emp, [], 0⟩ (by kernel_rfl) ?_
 refine AW.srwK (fun Q_1 hQ_1 => ?_)
 refine RW.au fokW 6 [] ⟨[(9, .d (I (wr (n - m)))), (11, .d (I (wr (-most)))), (12, .d (I most))], [], 0, Fr.emp, [], 0⟩ (by kernel_rfl) ?_
 obtain ⟨r0, hx_2, h⟩ := bsome h
 refine RW.one fokW (r_call trivial rfl (k50 (wr (n - m)) (wr (-most)) most _ hx_2) rfl rfl (r_end ?_))
 refine RW.au fokW 1 [] ⟨[(6, .d (.bool r0))], [], 0, Fr.emp, [], 0⟩ (by kernel_rfl) ?_
 refine RW.nil ?_
 refine hQ_1 _ ?_
 obtain rfl := Option.some.inj h
 exact AW.ret (hR_0 _ (retX (.cons (.tmp rfl) .nil) (.refl _) rfl (by kernel_rfl) (by kernel_rfl)))
end Go.Proofs.Th
namespace Go.Proofs.Th
open Go Go.Abs Go.Proofs
def g13_37 (t : HairBook) (r0_4 : Int) (r1_5 : Int) (p : HairHank) (p1 : HairHank) (p2 : HairHorse) : Int → Bool → Option Bool := fun v5 v4 => (ixL ([(arrL [p.Shade.Low, p1.Shade.Low]), (arrL [p.Shade.Low, p1.Shade.High]), (arrL [p.Shade.High, p1.Shade.Low]), (arrL [p.Shade.High, p1.Shade.High])]) v5).bind fun p3 => (bif v4 then ((g52 (wr ((p3 0) + r0_4)) p2.Shade t.Near).bind fun r0_1_1 => some r0_1_1) else (some false)).bind fun v6 => (bif v6 then ((g52 (wr ((p3 1) + r1_5)) p2.Shade t.Near).bind fun r0_1_2 => some r0_1_2) else (some false)).bind fun v7 => (bif v7 then ((g52 (wr ((p3 0) + r0_4)) (wr ((p3 1) + r1_5)) t.Match).bind fun r0_1_3 => some r0_1_3) else (some false)).bind fun v8 => some v8
def g13 (t : HairBook) (o : (Nat → Int)) : Option Bool := (g35 t).bind fun r0_7 => (bif (!r0_7) then (some true) else (some (decide ((t.Hanks.length : Int) < 2)))).bind fun v => (bif v then (some true) else (some (decide ((t.Horses.length : Int) = 0)))).bind fun v1 => bif v1 then ((g25).bind fun r0_12 => some r0_12) else ((g39 (o 0) (t.Horses.length : Int)).bind fun r0_2 => (g39 (o 1) (t.Hanks.length : Int)).bind fun r0_2_1 => (g39 (o 2) (wr ((t.Hanks.length : Int) - 1))).bind fun r0_2_2 => (g39 (wr ((wr (r0_2_1 + 1)) + r0_2_2)) (t.Hanks.length : Int)).bind fun r0_2_3 => (g15 t r0_2 r0_2_1 r0_2_3).bind fun (r0_4, r1_5, r2_4) => (g15 t r0_2 r0_2_3 r0_2_1).bind fun (r0_4_1, r1_5_1, r2_4_1) => bif ((decide (r2_4_1 ≠ r2_4)) || (decide (r2_4 ≠ 0))) then ((bif (((decide (r2_4_1 = r2_4)) && (decide (r2_4 = 4))) && (decide ((wr ((wr ((wr (r0_4 + r1_5)) + r0_4_1)) + r1_5_1)) = 0))) then ((g25).bind fun r0_12_1 => some r0_12_1) else (some false)).bind fun v2 => some v2) else ((ixL t.Hanks r0_2_1).bind fun p => (ixL t.Hanks r0_2_3).bind fun p1 => (ixL t.Horses r0_2).bind fun p2 => (g50 r0_4 0 t.Dark).bind fun r0 => (bif r0 then ((g50 r1_5 0 t.Dark).bind fun r0_1 => some r0_1) else (some false)).bind fun v3 => (forS (g13_37 t r0_4 r1_5 p p1 p2) (((4 : Int) - 0).toNat) 0 ((v3 && (decide (r0_4 ≤ r1_5_1))) && (decide (r0_4_1 ≤ r1_5)))).bind fun v4 => (bif v4 then ((g25).bind fun r0_12_2 => some r0_12_2) else (some false)).bind fun v9 => some v9))
theorem k13 (t : HairBook) (o : (Nat → Int)) (r : Bool) (h : g13 t o = some r) : SCall Tryd.prog Gs 13 [.agg (cv25 t), .agg [.d (I (o 0)), .d (I (o 1)), .d (I (o 2))]] [] 0 Fr.emp (.d (.bool r)) [] 0 Fr.emp := by
 unfold g13 at h
 refine SCall.mkK Tryd.func13 c13 rfl rfl (by kernel_rfl) (fun Q_0 hR_0 hN_0 => ?_)
 refine AW.sa fokW [] ⟨[(2, .ptr 0 0), (3, .ptr 1 0)], [(1, .var 27 [.d (I (o 0)), .d (I (o 1)), .d (I (o 2))]), (0, .var 25 (cv25 t))], 2, Fr.emp, [], 0⟩ (by kernel_rfl) ?_
 refine AW.seqK (fun K_1 hK_1 => ?_)
 refine AW.srwK (fun Q_2 hQ_2 => ?_)
 refine RW.au fokW 1 [] ⟨[(2, .ptr 0 0), (3, .ptr 1 0), (22, .agg (cv25 t))], [(1, .var 27 [.d (I (o 0)), .d (I (o 1)), .d (I (o 2))]), (0, .var 25 (cv25 t))], 2, Fr.emp, [], 0⟩ (by kernel_rfl) ?_
 obtain ⟨r0_7, hx_3, h⟩ := bsome h
 refine RW.one fokW (r_call trivial rfl (k35 t _ hx_3) rfl rfl (r_end ?_))
 refine RW.au fokW 2 [] ⟨[(2, .ptr 0 0), (3, .ptr 1 0), (25, .d (.bool (!r0_7)))], [(1, .var 27 [.d (I (o 0)), .d (I (o 1)), .d (I (o 2))]), (0, .var 25 (cv25 t))], 2, Fr.emp, [], 0⟩ (by kernel_rfl) ?_
 obtain ⟨v, hx_4, h⟩ := bsome h
 refine RW.cut fokW 5 (⟨[(2, .ptr 0 0), (3, .ptr 1 0), (30, .d (.bool v))], [(1, .var 27 [.d (I (o 0)), .d (I (o 1)), .d (I (o 2))]), (0, .var 25 (cv25 t))], 2, Fr.emp, [], 0⟩) ?_ ?_
 ·refine r_split 25 rfl (fun hb_5 => ?_) (fun hb_5 => ?_)
  ·have h := ifT hb_5 hx_4
   refine RunC.auX 5 ⟨[(2, .ptr 0 0), (3, .ptr 1 0), (30, .d (.bool true))], [(1, .var 27 [.d (I (o 0)), .d (I (o 1)), .d (I (o 2))]), (0, .var 25 (cv25 t))], 2, Fr.emp, [], 0⟩ (by kernel_rfl) ?_
   obtain rfl := Option.some.inj h
   refine RunC.finJ (Can.kp (by kernel_rfl))
  ·have h := ifF hb_5 hx_4
   refine RunC.auX 2 ⟨[(2, .ptr 0 0), (3, .ptr 1 0), (25, .d (.bool false)), (27, .d (.sl 4 (List.map e58 t.Hanks)))], [(1, .var 27 [.d (I (o 0)), .d (I (o 1)), .d (I (o 2))]), (0, .var 25 (cv25 t))], 2, Fr.emp, [], 0⟩ (by kernel_rfl) ?_
   refine r_lenX rfl rfl lenm ?_
   refine RunC.auX 2 ⟨[(2, .ptr 0 0), (3, .ptr 1 0), (30, .d (.bool (decide ((t.Hanks.length : Int) < 2))))], [(1, .var 27 [.d (I (o 0)), .d (I (o 1)), .d (I (o 2))]), (0, .var 25 (cv25 t))], 2, Fr.emp, [], 0⟩ (by kernel_rfl) ?_
   obtain rfl := Option.some.inj h
   refine RunC.finJ (Can.kp (by kernel_rfl))
 ·refine RW.au fokW 1 [] ⟨[(2, .ptr 0 0), (3, .ptr 1 0), (31, .d (.bool v))], [(1, .var 27 [.d (I (o 0)), .d (I (o 1)), .d (I (o 2))]), (0, .var 25 (cv25 t))], 2, Fr.emp, [], 0⟩ (by kernel_rfl) ?_
  obtain ⟨v1, hx_6, h⟩ := bsome h
  refine RW.cut fokW 5 (⟨[(2, .ptr 0 0), (3, .ptr 1 0), (36, .d (.bool v1))], [(1, .var 27 [.d (I (o 0)), .d (I (o 1)), .d (I (o 2))]), (0, .var 25 (cv25 t))], 2, Fr.emp, [], 0⟩) ?_ ?_
  ·refine r_split 31 rfl (fun hb_7 => ?_) (fun hb_7 => ?_)
   ·have h := ifT hb_7 hx_6
    refine RunC.auX 5 ⟨[(2, .ptr 0 0), (3, .ptr 1 0), (36, .d (.bool true))], [(1, .var 27 [.d (I (o 0)), .d (I (o 1)), .d (I (o 2))]), (0, .var 25 (cv25 t))], 2, Fr.emp, [], 0⟩ (by kernel_rfl) ?_
    obtain rfl := Option.some.inj h
    refine RunC.finJ (Can.kp (by kernel_rfl))
   ·have h := ifF hb_7 hx_6
    refine RunC.auX 2 ⟨[(2, .ptr 0 0), (3, .ptr 1 0), (31, .d (.bool false)), (33, .d (.sl 3 (List.map e69 t.Horses)))], [(1, .var 27 [.d (I (o 0)), .d (I (o 1)), .d (I (o 2))]), (0, .var 25 (cv25 t))], 2, Fr.emp, [], 0⟩ (by kernel_rfl) ?_
    refine r_lenX rfl rfl lenm ?_
    refine RunC.auX 2 ⟨[(2, .ptr 0 0), (3, .ptr 1 0), (36, .d (.bool (decide ((t.Horses.length : Int) = 0))))], [(1, .var 27 [.d (I (o 0)), .d (I (o 1)), .d (I (o 2))]), (0, .var 25 (cv25 t))], 2, Fr.emp, [], 0⟩ (by kernel_rfl) ?_
    obtain rfl := Option.some.inj h
    refine RunC.finJ (Can.kp (by kernel_rfl))
  ·refine RW.nil ?_
   refine hQ_2 _ ?_
   refine AW.cond rfl (fun hb_8 => ?_) (fun hb_8 => ?_)
   ·have h := ifT hb_8 h
    refine AW.srwK (fun Q_9 hQ_9 => ?_)
    obtain ⟨r0_12, hx_10, h⟩ := bsome h
    refine RW.one fokW (r_call trivial rfl (k25 _ hx_10) rfl rfl (r_end ?_))
    refine RW.au fokW 1 [] ⟨[(4, .d (.bool r0_12))], [], 2, Fr.emp, [], 0⟩ (by kernel_rfl) ?_
    refine RW.nil ?_
    refine hQ_9 _ ?_
    obtain rfl := Option.some.inj h
    exact AW.ret (hR_0 _ (retX (.cons (.tmp rfl) .nil) (.refl _) rfl (by kernel_rfl) (by kernel_rfl)))
   ·have h := ifF hb_8 h
    refine AW.skip ?_
    refine hK_1 _ ?_
    refine AW.sdrwK fokW (fun Q_11 hQ_11 => ?_)
    refine RunC.auX 4 ⟨[(2, .ptr 0 0), (3, .ptr 1 0), (39, .d (I (o 0))), (41, .d (.sl 3 (List.map e69 t.Horses)))], [(1, .var 27 [.d (I (o 0)), .d (I (o 1)), .d (I (o 2))]), (0, .var 25 (cv25 t))], 2, Fr.emp, [], 0⟩ (by kernel_rfl) ?_
    refine r_lenX trivial rfl lenm ?_
    obtain ⟨r0_2, hx_12, h⟩ := bsome h
    refine r_call trivial rfl (k39 (o 0) (t.Horses.length : Int) _ hx_12) rfl rfl ?_
    refine RunC.auX 4 ⟨[(2, .ptr 0 0), (3, .ptr 1 0), (43, .d (I r0_2)), (45, .d (I (o 1))), (47, .d (.sl 4 (List.map e58 t.Hanks)))], [(1, .var 27 [.d (I (o 0)), .d (I (o 1)), .d (I (o 2))]), (0, .var 25 (cv25 t))], 2, Fr.emp, [], 0⟩ (by kernel_rfl) ?_
    refine r_lenX trivial rfl lenm ?_
    obtain ⟨r0_2_1, hx_13, h⟩ := bsome h
    refine r_call trivial rfl (k39 (o 1) (t.Hanks.length : Int) _ hx_13) rfl rfl ?_
    refine RunC.auX 2 ⟨[(2, .ptr 0 0), (3, .ptr 1 0), (5, .d (I r0_2)), (6, .d (I r0_2_1))], [(1, .var 27 [.d (I (o 0)), .d (I (o 1)), .d (I (o 2))]), (0, .var 25 (cv25 t))], 2, Fr.emp, [], 0⟩ (by kernel_rfl) ?_
    refine RunC.fin ⟨[(2, .ptr 0 0), (3, .ptr 1 0), (5, .d (I r0_2)), (6, .d (I r0_2_1))], [(1, .var 27 [.d (I (o 0)), .d (I (o 1)), .d (I (o 2))]), (0, .var 25 (cv25 t))], 2, Fr.emp, [], 0⟩ (by kernel_rfl) (by kernel_rfl) ?_
    refine hQ_11 _ ?_
    refine AW.sdrwK fokW (fun Q_14 hQ_14 => ?_)
    refine RunC.auX 6 ⟨[(2, .ptr 0 0), (5, .d (I r0_2)), (6, .d (I r0_2_1)), (51, .d (I (wr (r0_2_1 + 1)))), (53, .d (I (o 2))), (55, .d (.sl 4 (List.map e58 t.Hanks)))], [(1, .var 27 [.d (I (o 0)), .d (I (o 1)), .d (I (o 2))]), (0, .var 25 (cv25 t))], 2, Fr.emp, [], 0⟩ (by kernel_rfl) ?_
    refine r_lenX trivial rfl lenm ?_
    refine RunC.auX 1 ⟨[(2, .ptr 0 0), (5, .d (I r0_2)), (6, .d (I r0_2_1)), (51, .d (I (wr (r0_2_1 + 1)))), (53, .d (I (o 2))), (57, .d (I (wr ((t.Hanks.length : Int) - 1))))], [(1, .var 27 [.d (I (o 0)), .d (I (o 1)), .d (I (o 2))]), (0, .var 25 (cv25 t))], 2, Fr.emp, [], 0⟩ (by kernel_rfl) ?_
    obtain ⟨r0_2_2, hx_15, h⟩ := bsome h
    refine r_call trivial rfl (k39 (o 2) (wr ((t.Hanks.length : Int) - 1)) _ hx_15) rfl rfl ?_
    refine RunC.auX 3 ⟨[(2, .ptr 0 0), (5, .d (I r0_2)), (6, .d (I r0_2_1)), (59, .d (I (wr ((wr (r0_2_1 + 1)) + r0_2_2)))), (61, .d (.sl 4 (List.map e58 t.Hanks)))], [(1, .var 27 [.d (I (o 0)), .d (I (o 1)), .d (I (o 2))]), (0, .var 25 (cv25 t))], 2, Fr.emp, [], 0⟩ (by kernel_rfl) ?_
    refine r_lenX trivial rfl lenm ?_
    obtain ⟨r0_2_3, hx_16, h⟩ := bsome h
    refine r_call trivial rfl (k39 (wr ((wr (r0_2_1 + 1)) + r0_2_2)) (t.Hanks.length : Int) _ hx_16) rfl rfl ?_
    refine RunC.auX 1 ⟨[(2, .ptr 0 0), (5, .d (I r0_2)), (6, .d (I r0_2_1)), (7, .d (I r0_2_3))], [(1, .var 27 [.d (I (o 0)), .d (I (o 1)), .d (I (o 2))]), (0, .var 25 (cv25 t))], 2, Fr.emp, [], 0⟩ (by kernel_rfl) ?_
    refine RunC.fin ⟨[(2, .ptr 0 0), (5, .d (I r0_2)), (6, .d (I r0_2_1)), (7, .d (I r0_2_3))], [(0, .var 25 (cv25 t))], 2, Fr.emp, [], 0⟩ (by kernel_rfl) (by kernel_rfl) ?_
    refine hQ_14 _ ?_
    refine AW.srwK (fun Q_17 hQ_17 => ?_)
    refine RW.au fokW 4 [] ⟨[(2, .ptr 0 0), (5, .d (I r0_2)), (6, .d (I r0_2_1)), (7, .d (I r0_2_3)), (65, .agg (cv25 t)), (66, .d (I r0_2)), (67, .d (I r0_2_1)), (68, .d (I r0_2_3))], [(0, .var 25 (cv25 t))], 2, Fr.emp, [], 0⟩ (by kernel_rfl) ?_
    obtain ⟨⟨r0_4, r1_5, r2_4⟩, hx_18, h⟩ := bsome h
    refine RW.one fokW (r_call trivial rfl (k15 t r0_2 r0_2_1 r0_2_3 _ hx_18) rfl rfl (r_end ?_))
    refine RW.au fokW 7 [] ⟨[(2, .ptr 0 0), (5, .d (I r0_2)), (6, .d (I r0_2_1)), (7, .d (I r0_2_3)), (8, .d (I r0_4)), (9, .d (I r1_5)), (10, .d (I r2_4))], [(0, .var 25 (cv25 t))], 2, Fr.emp, [], 0⟩ (by kernel_rfl) ?_
    refine RW.nil ?_
    refine hQ_17 _ ?_
    refine AW.srwK (fun Q_19 hQ_19 => ?_)
    refine RW.au fokW 4 [] ⟨[(2, .ptr 0 0), (5, .d (I r0_2)), (6, .d (I r0_2_1)), (7, .d (I r0_2_3)), (8, .d (I r0_4)), (9, .d (I r1_5)), (10, .d (I r2_4)), (74, .agg (cv25 t)), (75, .d (I r0_2)), (76, .d (I r0_2_3)), (77, .d (I r0_2_1))], [(0, .var 25 (cv25 t))], 2, Fr.emp, [], 0⟩ (by kernel_rfl) ?_
    obtain ⟨⟨r0_4_1, r1_5_1, r2_4_1⟩, hx_20, h⟩ := bsome h
    refine RW.one fokW (r_call trivial rfl (k15 t r0_2 r0_2_3 r0_2_1 _ hx_20) rfl rfl (r_end ?_))
    refine RW.au fokW 7 [] ⟨[(2, .ptr 0 0), (5, .d (I r0_2)), (6, .d (I r0_2_1)), (7, .d (I r0_2_3)), (8, .d (I r0_4)), (9, .d (I r1_5)), (10, .d (I r2_4)), (11, .d (I r0_4_1)), (12, .d (I r1_5_1)), (13, .d (I r2_4_1))], [(0, .var 25 (cv25 t))], 2, Fr.emp, [], 0⟩ (by kernel_rfl) ?_
    refine RW.nil ?_
    refine hQ_19 _ ?_
    refine AW.seqK (fun K_21 hK_21 => ?_)
    refine AW.sa fokW [85] ⟨[(2, .ptr 0 0), (5, .d (I r0_2)), (6, .d (I r0_2_1)), (7, .d (I r0_2_3)), (8, .d (I r0_4)), (9, .d (I r1_5)), (10, .d (I r2_4)), (11, .d (I r0_4_1)), (12, .d (I r1_5_1)), (13, .d (I r2_4_1)), (88, .d (.bool ((decide (r2_4_1 ≠ r2_4)) || (decide (r2_4 ≠ 0)))))], [(0, .var 25 (cv25 t))], 2, Fr.emp, [], 0⟩ (by kernel_rfl) ?_
    refine AW.cond rfl (fun hb_22 => ?_) (fun hb_22 => ?_)
    ·have h := ifT hb_22 h
     refine AW.srwK (fun Q_23 hQ_23 => ?_)
     refine RW.au fokW 18 [92, 96] ⟨[(106, .d (.bool (((decide (r2_4_1 = r2_4)) && (decide (r2_4 = 4))) && (decide ((wr ((wr ((wr (r0_4 + r1_5)) + r0_4_1)) + r1_5_1)) = 0)))))], [], 2, Fr.emp, [], 0⟩ (by kernel_rfl) ?_
     obtain ⟨v2, hx_24, h⟩ := bsome h
     refine RW.cut fokW 2 (⟨[(108, .d (.bool v2))], [], 2, Fr.emp, [], 0⟩) ?_ ?_
     ·refine r_split 106 rfl (fun hb_26 => ?_) (fun hb_26 => ?_)
      ·have h := ifT hb_26 hx_24
       obtain ⟨r0_12_1, hx_25, h⟩ := bsome h
       refine r_call rfl rfl (k25 _ hx_25) rfl rfl ?_
       refine RunC.auX 1 ⟨[(108, .d (.bool r0_12_1))], [], 2, Fr.emp, [], 0⟩ (by kernel_rfl) ?_
       obtain rfl := Option.some.inj h
       refine RunC.finJ (Can.kp (by kernel_rfl))
      ·have h := ifF hb_26 hx_24
       refine RunC.auX 2 ⟨[(108, .d (.bool false))], [], 2, Fr.emp, [], 0⟩ (by kernel_rfl) ?_
       obtain rfl := Option.some.inj h
       refine RunC.finJ (Can.kp (by kernel_rfl))
     ·refine RW.au fokW 1 [] ⟨[(4, .d (.bool v2))], [], 2, Fr.emp, [], 0⟩ (by kernel_rfl) ?_
      refine RW.nil ?_
      refine hQ_23 _ ?_
      obtain rfl := Option.some.inj h
      exact AW.ret (hR_0 _ (retX (.cons (.tmp rfl) .nil) (.refl _) rfl (by kernel_rfl) (by kernel_rfl)))
    ·have h := ifF hb_22 h
     refine AW.skip ?_
     refine hK_21 _ ?_
     refine AW.sdrwK fokW (fun Q_27 hQ_27 => ?_)
     refine RunC.auX 3 ⟨[(2, .ptr 0 0), (5, .d (I r0_2)), (7, .d (I r0_2_3)), (8, .d (I r0_4)), (9, .d (I r1_5)), (11, .d (I r0_4_1)), (12, .d (I r1_5_1)), (110, .d (.sl 4 (List.map e58 t.Hanks))), (111, .d (I r0_2_1))], [(0, .var 25 (cv25 t))], 2, Fr.emp, [], 0⟩ (by kernel_rfl) ?_
     obtain ⟨p, hv_28, h⟩ := bsome h
     refine r_iaD trivial rfl rfl (ixL_ok hv_28).1 (row := e58 p) (mapget (ixL_ok hv_28).2) ?_
     refine RunC.auX 5 ⟨[(2, .ptr 0 0), (5, .d (I r0_2)), (8, .d (I r0_4)), (9, .d (I r1_5)), (11, .d (I r0_4_1)), (12, .d (I r1_5_1)), (114, .agg [.d (I p.Shade.Low), .d (I p.Shade.High)]), (116, .d (.sl 4 (List.map e58 t.Hanks))), (117, .d (I r0_2_3))], [(0, .var 25 (cv25 t))], 2, Fr.emp, [], 0⟩ (by kernel_rfl) ?_
     obtain ⟨p1, hv_29, h⟩ := bsome h
     refine r_iaD trivial rfl rfl (ixL_ok hv_29).1 (row := e58 p1) (mapget (ixL_ok hv_29).2) ?_
     refine RunC.auX 5 ⟨[(2, .ptr 0 0), (8, .d (I r0_4)), (9, .d (I r1_5)), (11, .d (I r0_4_1)), (12, .d (I r1_5_1)), (114, .agg [.d (I p.Shade.Low), .d (I p.Shade.High)]), (120, .agg [.d (I p1.Shade.Low), .d (I p1.Shade.High)]), (122, .d (.sl 3 (List.map e69 t.Horses))), (123, .d (I r0_2))], [(0, .var 25 (cv25 t))], 2, Fr.emp, [], 0⟩ (by kernel_rfl) ?_
     obtain ⟨p2, hv_30, h⟩ := bsome h
     refine r_iaD trivial rfl rfl (ixL_ok hv_30).1 (row := e69 p2) (mapget (ixL_ok hv_30).2) ?_
     refine RunC.auX 7 ⟨[(2, .ptr 0 0), (8, .d (I r0_4)), (9, .d (I r1_5)), (11, .d (I r0_4_1)), (12, .d (I r1_5_1)), (14, .ptr 2 0), (15, .ptr 3 0), (16, .d (I p2.Shade))], [(3, .var 35 [.d (I p1.Shade.Low), .d (I p1.Shade.High)]), (2, .var 35 [.d (I p.Shade.Low), .d (I p.Shade.High)]), (0, .var 25 (cv25 t))], 4, Fr.emp, [], 0⟩ (by kernel_rfl) ?_
     refine RunC.fin ⟨[(2, .ptr 0 0), (8, .d (I r0_4)), (9, .d (I r1_5)), (11, .d (I r0_4_1)), (12, .d (I r1_5_1)), (14, .ptr 2 0), (15, .ptr 3 0), (16, .d (I p2.Shade))], [(3, .var 35 [.d (I p1.Shade.Low), .d (I p1.Shade.High)]), (2, .var 35 [.d (I p.Shade.Low), .d (I p.Shade.High)]), (0, .var 25 (cv25 t))], 4, Fr.emp, [], 0⟩ (by kernel_rfl) (by kernel_rfl) ?_
     refine hQ_27 _ ?_
     refine AW.srwK (fun Q_31 hQ_31 => ?_)
     refine RW.au fokW 3 [] ⟨[(2, .ptr 0 0), (8, .d (I r0_4)), (9, .d (I r1_5)), (11, .d (I r0_4_1)), (12, .d (I r1_5_1)), (14, .ptr 2 0), (15, .ptr 3 0), (16, .d (I p2.Shade)), (127, .d (I r0_4)), (129, .d (I t.Dark))], [(3, .var 35 [.d (I p1.Shade.Low), .d (I p1.Shade.High)]), (2, .var 35 [.d (I p.Shade.Low), .d (I p.Shade.High)]), (0, .var 25 (cv25 t))], 4, Fr.emp, [], 0⟩ (by kernel_rfl) ?_
     obtain ⟨r0, hx_32, h⟩ := bsome h
     refine RW.one fokW (r_call trivial rfl (k50 r0_4 0 t.Dark _ hx_32) rfl rfl (r_end ?_))
     refine RW.au fokW 1 [] ⟨[(2, .ptr 0 0), (8, .d (I r0_4)), (9, .d (I r1_5)), (11, .d (I r0_4_1)), (12, .d (I r1_5_1)), (14, .ptr 2 0), (15, .ptr 3 0), (16, .d (I p2.Shade)), (131, .d (.bool r0))], [(3, .var 35 [.d (I p1.Shade.Low), .d (I p1.Shade.High)]), (2, .var 35 [.d (I p.Shade.Low), .d (I p.Shade.High)]), (0, .var 25 (cv25 t))], 4, Fr.emp, [], 0⟩ (by kernel_rfl) ?_
     obtain ⟨v3, hx_33, h⟩ := bsome h
     refine RW.cut fokW 5 (⟨[(2, .ptr 0 0), (8, .d (I r0_4)), (9, .d (I r1_5)), (11, .d (I r0_4_1)), (12, .d (I r1_5_1)), (14, .ptr 2 0), (15, .ptr 3 0), (16, .d (I p2.Shade)), (136, .d (.bool v3))], [(3, .var 35 [.d (I p1.Shade.Low), .d (I p1.Shade.High)]), (2, .var 35 [.d (I p.Shade.Low), .d (I p.Shade.High)]), (0, .var 25 (cv25 t))], 4, Fr.emp, [], 0⟩) ?_ ?_
     ·refine r_split 131 rfl (fun hb_35 => ?_) (fun hb_35 => ?_)
      ·have h := ifT hb_35 hx_33
       refine RunC.auX 3 ⟨[(2, .ptr 0 0), (8, .d (I r0_4)), (9, .d (I r1_5)), (11, .d (I r0_4_1)), (12, .d (I r1_5_1)), (14, .ptr 2 0), (15, .ptr 3 0), (16, .d (I p2.Shade)), (131, .d (.bool true)), (132, .d (I r1_5)), (134, .d (I t.Dark))], [(3, .var 35 [.d (I p1.Shade.Low), .d (I p1.Shade.High)]), (2, .var 35 [.d (I p.Shade.Low), .d (I p.Shade.High)]), (0, .var 25 (cv25 t))], 4, Fr.emp, [], 0⟩ (by kernel_rfl) ?_
       obtain ⟨r0_1, hx_34, h⟩ := bsome h
       refine r_call rfl rfl (k50 r1_5 0 t.Dark _ hx_34) rfl rfl ?_
       refine RunC.auX 1 ⟨[(2, .ptr 0 0), (8, .d (I r0_4)), (9, .d (I r1_5)), (11, .d (I r0_4_1)), (12, .d (I r1_5_1)), (14, .ptr 2 0), (15, .ptr 3 0), (16, .d (I p2.Shade)), (136, .d (.bool r0_1))], [(3, .var 35 [.d (I p1.Shade.Low), .d (I p1.Shade.High)]), (2, .var 35 [.d (I p.Shade.Low), .d (I p.Shade.High)]), (0, .var 25 (cv25 t))], 4, Fr.emp, [], 0⟩ (by kernel_rfl) ?_
       obtain rfl := Option.some.inj h
       refine RunC.finJ (Can.kp (by kernel_rfl))
      ·have h := ifF hb_35 hx_33
       refine RunC.auX 5 ⟨[(2, .ptr 0 0), (8, .d (I r0_4)), (9, .d (I r1_5)), (11, .d (I r0_4_1)), (12, .d (I r1_5_1)), (14, .ptr 2 0), (15, .ptr 3 0), (16, .d (I p2.Shade)), (136, .d (.bool false))], [(3, .var 35 [.d (I p1.Shade.Low), .d (I p1.Shade.High)]), (2, .var 35 [.d (I p.Shade.Low), .d (I p.Shade.High)]), (0, .var 25 (cv25 t))], 4, Fr.emp, [], 0⟩ (by kernel_rfl) ?_
       obtain rfl := Option.some.inj h
       refine RunC.finJ (Can.kp (by kernel_rfl))
     ·refine RW.au fokW 11 [137, 142] ⟨[(2, .ptr 0 0), (8, .d (I r0_4)), (9, .d (I r1_5)), (14, .ptr 2 0), (15, .ptr 3 0), (16, .d (I p2.Shade)), (17, .d (.bool ((v3 && (decide (r0_4 ≤ r1_5_1))) && (decide (r0_4_1 ≤ r1_5)))))], [(3, .var 35 [.d (I p1.Shade.Low), .d (I p1.Shade.High)]), (2, .var 35 [.d (I p.Shade.Low), .d (I p.Shade.High)]), (0, .var 25 (cv25 t))], 4, Fr.emp, [], 0⟩ (by kernel_rfl) ?_
      refine RW.nil ?_
      refine hQ_31 _ ?_
      refine AW.sa fokW [] ⟨[(2, .ptr 0 0), (8, .d (I r0_4)), (9, .d (I r1_5)), (16, .d (I p2.Shade)), (17, .d (.bool ((v3 && (decide (r0_4 ≤ r1_5_1))) && (decide (r0_4_1 ≤ r1_5))))), (18, .own 4 (List.map e49 ([(arrL [p.Shade.Low, p1.Shade.Low]), (arrL [p.Shade.Low, p1.Shade.High]), (arrL [p.Shade.High, p1.Shade.Low]), (arrL [p.Shade.High, p1.Shade.High])])).length)], [(4, .row 49 2 (List.map e49 ([(arrL [p.Shade.Low, p1.Shade.Low]), (arrL [p.Shade.Low, p1.Shade.High]), (arrL [p.Shade.High, p1.Shade.Low]), (arrL [p.Shade.High, p1.Shade.High])]))), (0, .var 25 (cv25 t))], 5, Fr.emp, [], 0⟩ (by kernel_rfl) ?_
      refine AW.seqK (fun K_36 hK_36 => ?_)
      refine AW.sa fokW [] ⟨[(2, .ptr 0 0), (8, .d (I r0_4)), (9, .d (I r1_5)), (16, .d (I p2.Shade)), (17, .d (.bool ((v3 && (decide (r0_4 ≤ r1_5_1))) && (decide (r0_4_1 ≤ r1_5))))), (18, .own 4 (List.map e49 ([(arrL [p.Shade.Low, p1.Shade.Low]), (arrL [p.Shade.Low, p1.Shade.High]), (arrL [p.Shade.High, p1.Shade.Low]), (arrL [p.Shade.High, p1.Shade.High])])).length), (19, .d (I 0))], [(4, .row 49 2 (List.map e49 ([(arrL [p.Shade.Low, p1.Shade.Low]), (arrL [p.Shade.Low, p1.Shade.High]), (arrL [p.Shade.High, p1.Shade.Low]), (arrL [p.Shade.High, p1.Shade.High])]))), (0, .var 25 (cv25 t))], 5, Fr.emp, [], 0⟩ (by kernel_rfl) ?_
      refine AW.block ?_
      refine AW.can (Can.fzE 18 4 rfl rfl rfl) ?_
      have hN_37 : (4 : Int) ≤ 9223372036854775807 := by decide
      obtain ⟨out_37, hx_37, h⟩ := bsome h
      refine AW.lpSK (fun (v5 : Int) (v4 : Bool) => ⟨[(2, .ptr 0 0), (8, .d (I r0_4)), (9, .d (I r1_5)), (16, .d (I p2.Shade)), (17, .d (.bool v4)), (18, .d (.sl 2 (List.map e49 ([(arrL [p.Shade.Low, p1.Shade.Low]), (arrL [p.Shade.Low, p1.Shade.High]), (arrL [p.Shade.High, p1.Shade.Low]), (arrL [p.Shade.High, p1.Shade.High])])))), (19, .d (I v5))], [(0, .var 25 (cv25 t))], 5, Fr.emp, [], 0⟩) (g13_37 t r0_4 r1_5 p p1 p2) (4) hx_37 (Can.kp (by kernel_rfl)) (fun v5 v4 hi_37 hl_37 c_37 h K_37 hK_37 => ?_) (fun v5 v4 hi_37 hl_37 hout => ?_)
      ·unfold g13_37 at h
       refine AW.seqK (fun K_38 hK_38 => ?_)
       refine AW.sa fokW [] ⟨[(2, .ptr 0 0), (8, .d (I r0_4)), (9, .d (I r1_5)), (16, .d (I p2.Shade)), (17, .d (.bool v4)), (18, .d (.sl 2 (List.map e49 ([(arrL [p.Shade.Low, p1.Shade.Low]), (arrL [p.Shade.Low, p1.Shade.High]), (arrL [p.Shade.High, p1.Shade.Low]), (arrL [p.Shade.High, p1.Shade.High])])))), (19, .d (I v5)), (169, .d (.bool (decide (v5 < 4))))], [(0, .var 25 (cv25 t))], 5, Fr.emp, [], 0⟩ (by kernel_rfl) ?_
       refine AW.cond rfl (fun hb_39 => ?_) (fun hb_39 => False.elim (by have := of_decide_eq_false hb_39; omega))
       refine AW.skip ?_
       refine hK_38 _ ?_
       refine AW.seqK (fun K_40 hK_40 => ?_)
       refine AW.block ?_
       refine AW.sdrwK fokW (fun Q_41 hQ_41 => ?_)
       refine RunC.auX 2 ⟨[(2, .ptr 0 0), (8, .d (I r0_4)), (9, .d (I r1_5)), (16, .d (I p2.Shade)), (17, .d (.bool v4)), (18, .d (.sl 2 (List.map e49 ([(arrL [p.Shade.Low, p1.Shade.Low]), (arrL [p.Shade.Low, p1.Shade.High]), (arrL [p.Shade.High, p1.Shade.Low]), (arrL [p.Shade.High, p1.Shade.High])])))), (19, .d (I v5)), (172, .d (.sl 2 (List.map e49 ([(arrL [p.Shade.Low, p1.Shade.Low]), (arrL [p.Shade.Low, p1.Shade.High]), (arrL [p.Shade.High, p1.Shade.Low]), (arrL [p.Shade.High, p1.Shade.High])])))), (173, .d (I v5))], [(0, .var 25 (cv25 t))], 5, Fr.emp, [], 0⟩ (by kernel_rfl) ?_
       obtain ⟨p3, hv_42, h⟩ := bsome h
       refine r_iaD trivial rfl rfl (ixL_ok hv_42).1 (row := e49 p3) (mapget (ixL_ok hv_42).2) ?_
       refine RunC.auX 6 ⟨[(2, .ptr 0 0), (8, .d (I r0_4)), (9, .d (I r1_5)), (16, .d (I p2.Shade)), (17, .d (.bool v4)), (18, .d (.sl 2 (List.map e49 ([(arrL [p.Shade.Low, p1.Shade.Low]), (arrL [p.Shade.Low, p1.Shade.High]), (arrL [p.Shade.High, p1.Shade.Low]), (arrL [p.Shade.High, p1.Shade.High])])))), (19, .d (I v5)), (178, .d (I (wr ((p3 0) + r0_4)))), (179, .d (.sl 2 (List.map e49 ([(arrL [p.Shade.Low, p1.Shade.Low]), (arrL [p.Shade.Low, p1.Shade.High]), (arrL [p.Shade.High, p1.Shade.Low]), (arrL [p.Shade.High, p1.Shade.High])])))), (180, .d (I v5))], [(0, .var 25 (cv25 t))], 5, Fr.emp, [], 0⟩ (by kernel_rfl) ?_
       refine r_iaD trivial rfl rfl (ixL_ok hv_42).1 (row := e49 p3) (mapget (ixL_ok hv_42).2) ?_
       refine RunC.auX 6 ⟨[(2, .ptr 0 0), (8, .d (I r0_4)), (9, .d (I r1_5)), (16, .d (I p2.Shade)), (17, .d (.bool v4)), (18, .d (.sl 2 (List.map e49 ([(arrL [p.Shade.Low, p1.Shade.Low]), (arrL [p.Shade.Low, p1.Shade.High]), (arrL [p.Shade.High, p1.Shade.Low]), (arrL [p.Shade.High, p1.Shade.High])])))), (19, .d (I v5)), (20, .d (I (wr ((p3 0) + r0_4)))), (21, .d (I (wr ((p3 1) + r1_5))))], [(0, .var 25 (cv25 t))], 5, Fr.emp, [], 0⟩ (by kernel_rfl) ?_
       refine RunC.fin ⟨[(2, .ptr 0 0), (8, .d (I r0_4)), (9, .d (I r1_5)), (16, .d (I p2.Shade)), (17, .d (.bool v4)), (18, .d (.sl 2 (List.map e49 ([(arrL [p.Shade.Low, p1.Shade.Low]), (arrL [p.Shade.Low, p1.Shade.High]), (arrL [p.Shade.High, p1.Shade.Low]), (arrL [p.Shade.High, p1.Shade.High])])))), (19, .d (I v5)), (20, .d (I (wr ((p3 0) + r0_4)))), (21, .d (I (wr ((p3 1) + r1_5))))], [(0, .var 25 (cv25 t))], 5, Fr.emp, [], 0⟩ (by kernel_rfl) (by kernel_rfl) ?_
       refine hQ_41 _ ?_
       refine AW.rw ?_
       refine RW.au fokW 2 [] ⟨[(2, .ptr 0 0), (8, .d (I r0_4)), (9, .d (I r1_5)), (16, .d (I p2.Shade)), (18, .d (.sl 2 (List.map e49 ([(arrL [p.Shade.Low, p1.Shade.Low]), (arrL [p.Shade.Low, p1.Shade.High]), (arrL [p.Shade.High, p1.Shade.Low]), (arrL [p.Shade.High, p1.Shade.High])])))), (19, .d (I v5)), (20, .d (I (wr ((p3 0) + r0_4)))), (21, .d (I (wr ((p3 1) + r1_5)))), (187, .d (.bool v4))], [(0, .var 25 (cv25 t))], 5, Fr.emp, [], 0⟩ (by kernel_rfl) ?_
       obtain ⟨v6, hx_44, h⟩ := bsome h
       refine RW.cut fokW 6 (⟨[(2, .ptr 0 0), (8, .d (I r0_4)), (9, .d (I r1_5)), (16, .d (I p2.Shade)), (18, .d (.sl 2 (List.map e49 ([(arrL [p.Shade.Low, p1.Shade.Low]), (arrL [p.Shade.Low, p1.Shade.High]), (arrL [p.Shade.High, p1.Shade.Low]), (arrL [p.Shade.High, p1.Shade.High])])))), (19, .d (I v5)), (20, .d (I (wr ((p3 0) + r0_4)))), (21, .d (I (wr ((p3 1) + r1_5)))), (193, .d (.bool v6))], [(0, .var 25 (cv25 t))], 5, Fr.emp, [], 0⟩) ?_ ?_
       ·refine r_split 187 rfl (fun hb_46 => ?_) (fun hb_46 => ?_)
        ·have h := ifT hb_46 hx_44
         refine RunC.auX 4 ⟨[(2, .ptr 0 0), (8, .d (I r0_4)), (9, .d (I r1_5)), (16, .d (I p2.Shade)), (18, .d (.sl 2 (List.map e49 ([(arrL [p.Shade.Low, p1.Shade.Low]), (arrL [p.Shade.Low, p1.Shade.High]), (arrL [p.Shade.High, p1.Shade.Low]), (arrL [p.Shade.High, p1.Shade.High])])))), (19, .d (I v5)), (20, .d (I (wr ((p3 0) + r0_4)))), (21, .d (I (wr ((p3 1) + r1_5)))), (187, .d (.bool true)), (188, .d (I (wr ((p3 0) + r0_4)))), (189, .d (I p2.Shade)), (191, .d (I t.Near))], [(0, .var 25 (cv25 t))], 5, Fr.emp, [], 0⟩ (by kernel_rfl) ?_
         obtain ⟨r0_1_1, hx_45, h⟩ := bsome h
         refine r_call rfl rfl (k52 (wr ((p3 0) + r0_4)) p2.Shade t.Near _ hx_45) rfl rfl ?_
         refine RunC.auX 1 ⟨[(2, .ptr 0 0), (8, .d (I r0_4)), (9, .d (I r1_5)), (16, .d (I p2.Shade)), (18, .d (.sl 2 (List.map e49 ([(arrL [p.Shade.Low, p1.Shade.Low]), (arrL [p.Shade.Low, p1.Shade.High]), (arrL [p.Shade.High, p1.Shade.Low]), (arrL [p.Shade.High, p1.Shade.High])])))), (19, .d (I v5)), (20, .d (I (wr ((p3 0) + r0_4)))), (21, .d (I (wr ((p3 1) + r1_5)))), (193, .d (.bool r0_1_1))], [(0, .var 25 (cv25 t))], 5, Fr.emp, [], 0⟩ (by kernel_rfl) ?_
         obtain rfl := Option.some.inj h
         refine RunC.finJ (Can.kp (by kernel_rfl))
        ·have h := ifF hb_46 hx_44
         refine RunC.auX 6 ⟨[(2, .ptr 0 0), (8, .d (I r0_4)), (9, .d (I r1_5)), (16, .d (I p2.Shade)), (18, .d (.sl 2 (List.map e49 ([(arrL [p.Shade.Low, p1.Shade.Low]), (arrL [p.Shade.Low, p1.Shade.High]), (arrL [p.Shade.High, p1.Shade.Low]), (arrL [p.Shade.High, p1.Shade.High])])))), (19, .d (I v5)), (20, .d (I (wr ((p3 0) + r0_4)))), (21, .d (I (wr ((p3 1) + r1_5)))), (193, .d (.bool false))], [(0, .var 25 (cv25 t))], 5, Fr.emp, [], 0⟩ (by kernel_rfl) ?_
         obtain rfl := Option.some.inj h
         refine RunC.finJ (Can.kp (by kernel_rfl))
       ·refine RW.au fokW 1 [] ⟨[(2, .ptr 0 0), (8, .d (I r0_4)), (9, .d (I r1_5)), (16, .d (I p2.Shade)), (18, .d (.sl 2 (List.map e49 ([(arrL [p.Shade.Low, p1.Shade.Low]), (arrL [p.Shade.Low, p1.Shade.High]), (arrL [p.Shade.High, p1.Shade.Low]), (arrL [p.Shade.High, p1.Shade.High])])))), (19, .d (I v5)), (20, .d (I (wr ((p3 0) + r0_4)))), (21, .d (I (wr ((p3 1) + r1_5)))), (194, .d (.bool v6))], [(0, .var 25 (cv25 t))], 5, Fr.emp, [], 0⟩ (by kernel_rfl) ?_
        obtain ⟨v7, hx_47, h⟩ := bsome h
        refine RW.cut fokW 6 (⟨[(2, .ptr 0 0), (8, .d (I r0_4)), (9, .d (I r1_5)), (16, .d (I p2.Shade)), (18, .d (.sl 2 (List.map e49 ([(arrL [p.Shade.Low, p1.Shade.Low]), (arrL [p.Shade.Low, p1.Shade.High]), (arrL [p.Shade.High, p1.Shade.Low]), (arrL [p.Shade.High, p1.Shade.High])])))), (19, .d (I v5)), (20, .d (I (wr ((p3 0) + r0_4)))), (21, .d (I (wr ((p3 1) + r1_5)))), (200, .d (.bool v7))], [(0, .var 25 (cv25 t))], 5, Fr.emp, [], 0⟩) ?_ ?_
        ·refine r_split 194 rfl (fun hb_49 => ?_) (fun hb_49 => ?_)
         ·have h := ifT hb_49 hx_47
          refine RunC.auX 4 ⟨[(2, .ptr 0 0), (8, .d (I r0_4)), (9, .d (I r1_5)), (16, .d (I p2.Shade)), (18, .d (.sl 2 (List.map e49 ([(arrL [p.Shade.Low, p1.Shade.Low]), (arrL [p.Shade.Low, p1.Shade.High]), (arrL [p.Shade.High, p1.Shade.Low]), (arrL [p.Shade.High, p1.Shade.High])])))), (19, .d (I v5)), (20, .d (I (wr ((p3 0) + r0_4)))), (21, .d (I (wr ((p3 1) + r1_5)))), (194, .d (.bool true)), (195, .d (I (wr ((p3 1) + r1_5)))), (196, .d (I p2.Shade)), (198, .d (I t.Near))], [(0, .var 25 (cv25 t))], 5, Fr.emp, [], 0⟩ (by kernel_rfl) ?_
          obtain ⟨r0_1_2, hx_48, h⟩ := bsome h
          refine r_call rfl rfl (k52 (wr ((p3 1) + r1_5)) p2.Shade t.Near _ hx_48) rfl rfl ?_
          refine RunC.auX 1 ⟨[(2, .ptr 0 0), (8, .d (I r0_4)), (9, .d (I r1_5)), (16, .d (I p2.Shade)), (18, .d (.sl 2 (List.map e49 ([(arrL [p.Shade.Low, p1.Shade.Low]), (arrL [p.Shade.Low, p1.Shade.High]), (arrL [p.Shade.High, p1.Shade.Low]), (arrL [p.Shade.High, p1.Shade.High])])))), (19, .d (I v5)), (20, .d (I (wr ((p3 0) + r0_4)))), (21, .d (I (wr ((p3 1) + r1_5)))), (200, .d (.bool r0_1_2))], [(0, .var 25 (cv25 t))], 5, Fr.emp, [], 0⟩ (by kernel_rfl) ?_
          obtain rfl := Option.some.inj h
          refine RunC.finJ (Can.kp (by kernel_rfl))
         ·have h := ifF hb_49 hx_47
          refine RunC.auX 6 ⟨[(2, .ptr 0 0), (8, .d (I r0_4)), (9, .d (I r1_5)), (16, .d (I p2.Shade)), (18, .d (.sl 2 (List.map e49 ([(arrL [p.Shade.Low, p1.Shade.Low]), (arrL [p.Shade.Low, p1.Shade.High]), (arrL [p.Shade.High, p1.Shade.Low]), (arrL [p.Shade.High, p1.Shade.High])])))), (19, .d (I v5)), (20, .d (I (wr ((p3 0) + r0_4)))), (21, .d (I (wr ((p3 1) + r1_5)))), (200, .d (.bool false))], [(0, .var 25 (cv25 t))], 5, Fr.emp, [], 0⟩ (by kernel_rfl) ?_
          obtain rfl := Option.some.inj h
          refine RunC.finJ (Can.kp (by kernel_rfl))
        ·refine RW.au fokW 1 [] ⟨[(2, .ptr 0 0), (8, .d (I r0_4)), (9, .d (I r1_5)), (16, .d (I p2.Shade)), (18, .d (.sl 2 (List.map e49 ([(arrL [p.Shade.Low, p1.Shade.Low]), (arrL [p.Shade.Low, p1.Shade.High]), (arrL [p.Shade.High, p1.Shade.Low]), (arrL [p.Shade.High, p1.Shade.High])])))), (19, .d (I v5)), (20, .d (I (wr ((p3 0) + r0_4)))), (21, .d (I (wr ((p3 1) + r1_5)))), (201, .d (.bool v7))], [(0, .var 25 (cv25 t))], 5, Fr.emp, [], 0⟩ (by kernel_rfl) ?_
         obtain ⟨v8, hx_50, h⟩ := bsome h
         refine RW.cut fokW 6 (⟨[(2, .ptr 0 0), (8, .d (I r0_4)), (9, .d (I r1_5)), (16, .d (I p2.Shade)), (18, .d (.sl 2 (List.map e49 ([(arrL [p.Shade.Low, p1.Shade.Low]), (arrL [p.Shade.Low, p1.Shade.High]), (arrL [p.Shade.High, p1.Shade.Low]), (arrL [p.Shade.High, p1.Shade.High])])))), (19, .d (I v5)), (207, .d (.bool v8))], [(0, .var 25 (cv25 t))], 5, Fr.emp, [], 0⟩) ?_ ?_
         ·refine r_split 201 rfl (fun hb_52 => ?_) (fun hb_52 => ?_)
          ·have h := ifT hb_52 hx_50
           refine RunC.auX 4 ⟨[(2, .ptr 0 0), (8, .d (I r0_4)), (9, .d (I r1_5)), (16, .d (I p2.Shade)), (18, .d (.sl 2 (List.map e49 ([(arrL [p.Shade.Low, p1.Shade.Low]), (arrL [p.Shade.Low, p1.Shade.High]), (arrL [p.Shade.High, p1.Shade.Low]), (arrL [p.Shade.High, p1.Shade.High])])))), (19, .d (I v5)), (201, .d (.bool true)), (202, .d (I (wr ((p3 0) + r0_4)))), (203, .d (I (wr ((p3 1) + r1_5)))), (205, .d (I t.Match))], [(0, .var 25 (cv25 t))], 5, Fr.emp, [], 0⟩ (by kernel_rfl) ?_
           obtain ⟨r0_1_3, hx_51, h⟩ := bsome h
           refine r_call rfl rfl (k52 (wr ((p3 0) + r0_4)) (wr ((p3 1) + r1_5)) t.Match _ hx_51) rfl rfl ?_
           refine RunC.auX 1 ⟨[(2, .ptr 0 0), (8, .d (I r0_4)), (9, .d (I r1_5)), (16, .d (I p2.Shade)), (18, .d (.sl 2 (List.map e49 ([(arrL [p.Shade.Low, p1.Shade.Low]), (arrL [p.Shade.Low, p1.Shade.High]), (arrL [p.Shade.High, p1.Shade.Low]), (arrL [p.Shade.High, p1.Shade.High])])))), (19, .d (I v5)), (207, .d (.bool r0_1_3))], [(0, .var 25 (cv25 t))], 5, Fr.emp, [], 0⟩ (by kernel_rfl) ?_
           obtain rfl := Option.some.inj h
           refine RunC.finJ (Can.kp (by kernel_rfl))
          ·have h := ifF hb_52 hx_50
           refine RunC.auX 6 ⟨[(2, .ptr 0 0), (8, .d (I r0_4)), (9, .d (I r1_5)), (16, .d (I p2.Shade)), (18, .d (.sl 2 (List.map e49 ([(arrL [p.Shade.Low, p1.Shade.Low]), (arrL [p.Shade.Low, p1.Shade.High]), (arrL [p.Shade.High, p1.Shade.Low]), (arrL [p.Shade.High, p1.Shade.High])])))), (19, .d (I v5)), (207, .d (.bool false))], [(0, .var 25 (cv25 t))], 5, Fr.emp, [], 0⟩ (by kernel_rfl) ?_
           obtain rfl := Option.some.inj h
           refine RunC.finJ (Can.kp (by kernel_rfl))
         ·refine RW.au fokW 1 [] ⟨[(2, .ptr 0 0), (8, .d (I r0_4)), (9, .d (I r1_5)), (16, .d (I p2.Shade)), (17, .d (.bool v8)), (18, .d (.sl 2 (List.map e49 ([(arrL [p.Shade.Low, p1.Shade.Low]), (arrL [p.Shade.Low, p1.Shade.High]), (arrL [p.Shade.High, p1.Shade.Low]), (arrL [p.Shade.High, p1.Shade.High])])))), (19, .d (I v5))], [(0, .var 25 (cv25 t))], 5, Fr.emp, [], 0⟩ (by kernel_rfl) ?_
          refine RW.nil ?_
          refine hK_40 _ ?_
          refine AW.ra fokW [] ⟨[(2, .ptr 0 0), (8, .d (I r0_4)), (9, .d (I r1_5)), (16, .d (I p2.Shade)), (17, .d (.bool v8)), (18, .d (.sl 2 (List.map e49 ([(arrL [p.Shade.Low, p1.Shade.Low]), (arrL [p.Shade.Low, p1.Shade.High]), (arrL [p.Shade.High, p1.Shade.Low]), (arrL [p.Shade.High, p1.Shade.High])])))), (19, .d (I (wr (v5 + 1))))], [(0, .var 25 (cv25 t))], 5, Fr.emp, [], 0⟩ (by kernel_rfl) ?_
          obtain rfl := Option.some.inj h
          have ew : wr (v5 + 1) = v5 + 1 := inext (N := 4) (by omega) (by omega) (by omega)
          rw [ew]
          exact hK_37 _ (Can.kp (by kernel_rfl))
      ·subst hout
       refine AW.seqK (fun K_53 hK_53 => ?_)
       refine AW.sa fokW [] ⟨[(2, .ptr 0 0), (8, .d (I r0_4)), (9, .d (I r1_5)), (16, .d (I p2.Shade)), (17, .d (.bool v4)), (18, .d (.sl 2 (List.map e49 ([(arrL [p.Shade.Low, p1.Shade.Low]), (arrL [p.Shade.Low, p1.Shade.High]), (arrL [p.Shade.High, p1.Shade.Low]), (arrL [p.Shade.High, p1.Shade.High])])))), (19, .d (I v5)), (169, .d (.bool (decide (v5 < 4))))], [(0, .var 25 (cv25 t))], 5, Fr.emp, [], 0⟩ (by kernel_rfl) ?_
       refine AW.cond rfl (fun hb_54 => False.elim (by have := of_decide_eq_true hb_54; omega)) (fun hb_54 => ?_)
       refine AW.exit ?_
       refine hK_36 _ ?_
       refine AW.srwK (fun Q_55 hQ_55 => ?_)
       refine RW.au fokW 2 [] ⟨[(209, .d (.bool v4))], [], 5, Fr.emp, [], 0⟩ (by kernel_rfl) ?_
       obtain ⟨v9, hx_56, h⟩ := bsome h
       refine RW.cut fokW 2 (⟨[(211, .d (.bool v9))], [], 5, Fr.emp, [], 0⟩) ?_ ?_
       ·refine r_split 209 rfl (fun hb_58 => ?_) (fun hb_58 => ?_)
        ·have h := ifT hb_58 hx_56
         obtain ⟨r0_12_2, hx_57, h⟩ := bsome h
         refine r_call rfl rfl (k25 _ hx_57) rfl rfl ?_
         refine RunC.auX 1 ⟨[(211, .d (.bool r0_12_2))], [], 5, Fr.emp, [], 0⟩ (by kernel_rfl) ?_
         obtain rfl := Option.some.inj h
         refine RunC.finJ (Can.kp (by kernel_rfl))
        ·have h := ifF hb_58 hx_56
         refine RunC.auX 2 ⟨[(211, .d (.bool false))], [], 5, Fr.emp, [], 0⟩ (by kernel_rfl) ?_
         obtain rfl := Option.some.inj h
         refine RunC.finJ (Can.kp (by kernel_rfl))
       ·refine RW.au fokW 1 [] ⟨[(4, .d (.bool v9))], [], 5, Fr.emp, [], 0⟩ (by kernel_rfl) ?_
        refine RW.nil ?_
        refine hQ_55 _ ?_
        obtain rfl := Option.some.inj h
        exact AW.ret (hR_0 _ (retX (.cons (.tmp rfl) .nil) (.refl _) rfl (by kernel_rfl) (by kernel_rfl)))
end Go.Proofs.Th
