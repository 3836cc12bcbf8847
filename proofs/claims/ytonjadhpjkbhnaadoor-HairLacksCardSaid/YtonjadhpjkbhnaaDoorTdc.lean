/- Told functions, and that the program does so, part 3. Conditions: none. -/
import Derived.Test.YtonjadhpjkbhnaaDoorTdb
set_option linter.unusedVariables false
set_option linter.unusedSimpArgs false
namespace Go.Proofs.Th
open Go Go.Abs Go.Proofs
def g35_18 (b : HairBook) : (Bool × Int) → Option (Ctl (Bool × Int) (Bool)) := fun  (ok2, i) => (bif ok2 then (some (decide (i < (b.Hanks.length : Int)))) else (some false)).bind fun v5 => bif v5 then ((ixL b.Hanks i).bind fun p => (g64 p.Weight 1 60).bind fun r0_3 => (bif r0_3 then ((g64 p.Shade 0 20).bind fun r0_4 => some r0_4) else (some false)).bind fun v6 => some (.next (v6, (wr (i + 1))))) else (some (.brk ok2))
def g35_33 (b : HairBook) : (Bool × Int) → Option (Ctl (Bool × Int) (Bool)) := fun  (ok5, i1) => (bif ok5 then (some (decide (i1 < (b.Horses.length : Int)))) else (some false)).bind fun v7 => bif v7 then ((ixL b.Horses i1).bind fun p1 => (g50 p1.Mane 1 30).bind fun r0_5 => (bif r0_5 then ((g50 p1.Tail 1 30).bind fun r0_6 => some r0_6) else (some false)).bind fun v8 => some (.next (v8, (wr (i1 + 1))))) else (some (.brk ok5))
def g35 (b : HairBook) : Option Bool := (g17 b).bind fun r0_9 => (bif (decide (r0_9 = 0)) then (some (decide ((b.Hanks.length : Int) ≤ 4))) else (some false)).bind fun v => (bif v then (some (decide ((b.Horses.length : Int) ≤ 3))) else (some false)).bind fun v1 => (bif v1 then ((g50 b.Dark 0 4).bind fun r0 => some r0) else (some false)).bind fun v2 => (bif v2 then ((g50 b.Near 0 3).bind fun r0_1 => some r0_1) else (some false)).bind fun v3 => (bif v3 then ((g50 b.Match 0 3).bind fun r0_2 => some r0_2) else (some false)).bind fun v4 => ((whileC (g35_18 b) 1000 (v4, 0)).bind fun ok1 => some ok1).bind fun ok => ((whileC (g35_33 b) 1000 (ok, 0)).bind fun ok4 => some ok4).bind fun ok3 => some ok3
theorem k35 (b : HairBook) (r : Bool) (h : g35 b = some r) : SCall Tryd.prog Gs 35 [.agg (cv25 b)] [] 0 Fr.emp (.d (.bool r)) [] 0 Fr.emp := by
 unfold g35 at h
 refine SCall.mkK Tryd.func35 c35 rfl rfl (by kernel_rfl) (fun Q_0 hR_0 hN_0 => ?_)
 refine AW.sa fokW [] ⟨[(1, .ptr 0 0)], [(0, .var 25 (cv25 b))], 1, Fr.emp, [], 0⟩ (by kernel_rfl) ?_
 refine AW.srwK (fun Q_1 hQ_1 => ?_)
 refine RW.au fokW 1 [] ⟨[(1, .ptr 0 0), (7, .agg (cv25 b))], [(0, .var 25 (cv25 b))], 1, Fr.emp, [], 0⟩ (by kernel_rfl) ?_
 obtain ⟨r0_9, hx_2, h⟩ := bsome h
 refine RW.one fokW (r_call trivial rfl (k17 b _ hx_2) rfl rfl (r_end ?_))
 refine RW.au fokW 2 [] ⟨[(1, .ptr 0 0), (10, .d (.bool (decide (r0_9 = 0))))], [(0, .var 25 (cv25 b))], 1, Fr.emp, [], 0⟩ (by kernel_rfl) ?_
 obtain ⟨v, hx_3, h⟩ := bsome h
 refine RW.cut fokW 5 (⟨[(1, .ptr 0 0), (15, .d (.bool v))], [(0, .var 25 (cv25 b))], 1, Fr.emp, [], 0⟩) ?_ ?_
 ·refine r_split 10 rfl (fun hb_4 => ?_) (fun hb_4 => ?_)
  ·have h := ifT hb_4 hx_3
   refine RunC.auX 2 ⟨[(1, .ptr 0 0), (10, .d (.bool true)), (12, .d (.sl 4 (List.map e58 b.Hanks)))], [(0, .var 25 (cv25 b))], 1, Fr.emp, [], 0⟩ (by kernel_rfl) ?_
   refine r_lenX rfl rfl lenm ?_
   refine RunC.auX 2 ⟨[(1, .ptr 0 0), (15, .d (.bool (decide ((b.Hanks.length : Int) ≤ 4))))], [(0, .var 25 (cv25 b))], 1, Fr.emp, [], 0⟩ (by kernel_rfl) ?_
   obtain rfl := Option.some.inj h
   refine RunC.finJ (Can.kp (by kernel_rfl))
  ·have h := ifF hb_4 hx_3
   refine RunC.auX 5 ⟨[(1, .ptr 0 0), (15, .d (.bool false))], [(0, .var 25 (cv25 b))], 1, Fr.emp, [], 0⟩ (by kernel_rfl) ?_
   obtain rfl := Option.some.inj h
   refine RunC.finJ (Can.kp (by kernel_rfl))
 ·refine RW.au fokW 1 [] ⟨[(1, .ptr 0 0), (16, .d (.bool v))], [(0, .var 25 (cv25 b))], 1, Fr.emp, [], 0⟩ (by kernel_rfl) ?_
  obtain ⟨v1, hx_5, h⟩ := bsome h
  refine RW.cut fokW 5 (⟨[(1, .ptr 0 0), (21, .d (.bool v1))], [(0, .var 25 (cv25 b))], 1, Fr.emp, [], 0⟩) ?_ ?_
  ·refine r_split 16 rfl (fun hb_6 => ?_) (fun hb_6 => ?_)
   ·have h := ifT hb_6 hx_5
    refine RunC.auX 2 ⟨[(1, .ptr 0 0), (16, .d (.bool true)), (18, .d (.sl 3 (List.map e69 b.Horses)))], [(0, .var 25 (cv25 b))], 1, Fr.emp, [], 0⟩ (by kernel_rfl) ?_
    refine r_lenX rfl rfl lenm ?_
    refine RunC.auX 2 ⟨[(1, .ptr 0 0), (21, .d (.bool (decide ((b.Horses.length : Int) ≤ 3))))], [(0, .var 25 (cv25 b))], 1, Fr.emp, [], 0⟩ (by kernel_rfl) ?_
    obtain rfl := Option.some.inj h
    refine RunC.finJ (Can.kp (by kernel_rfl))
   ·have h := ifF hb_6 hx_5
    refine RunC.auX 5 ⟨[(1, .ptr 0 0), (21, .d (.bool false))], [(0, .var 25 (cv25 b))], 1, Fr.emp, [], 0⟩ (by kernel_rfl) ?_
    obtain rfl := Option.some.inj h
    refine RunC.finJ (Can.kp (by kernel_rfl))
  ·refine RW.au fokW 1 [] ⟨[(1, .ptr 0 0), (22, .d (.bool v1))], [(0, .var 25 (cv25 b))], 1, Fr.emp, [], 0⟩ (by kernel_rfl) ?_
   obtain ⟨v2, hx_7, h⟩ := bsome h
   refine RW.cut fokW 4 (⟨[(1, .ptr 0 0), (26, .d (.bool v2))], [(0, .var 25 (cv25 b))], 1, Fr.emp, [], 0⟩) ?_ ?_
   ·refine r_split 22 rfl (fun hb_9 => ?_) (fun hb_9 => ?_)
    ·have h := ifT hb_9 hx_7
     refine RunC.auX 2 ⟨[(1, .ptr 0 0), (22, .d (.bool true)), (24, .d (I b.Dark))], [(0, .var 25 (cv25 b))], 1, Fr.emp, [], 0⟩ (by kernel_rfl) ?_
     obtain ⟨r0, hx_8, h⟩ := bsome h
     refine r_call rfl rfl (k50 b.Dark 0 4 _ hx_8) rfl rfl ?_
     refine RunC.auX 1 ⟨[(1, .ptr 0 0), (26, .d (.bool r0))], [(0, .var 25 (cv25 b))], 1, Fr.emp, [], 0⟩ (by kernel_rfl) ?_
     obtain rfl := Option.some.inj h
     refine RunC.finJ (Can.kp (by kernel_rfl))
    ·have h := ifF hb_9 hx_7
     refine RunC.auX 4 ⟨[(1, .ptr 0 0), (26, .d (.bool false))], [(0, .var 25 (cv25 b))], 1, Fr.emp, [], 0⟩ (by kernel_rfl) ?_
     obtain rfl := Option.some.inj h
     refine RunC.finJ (Can.kp (by kernel_rfl))
   ·refine RW.au fokW 1 [] ⟨[(1, .ptr 0 0), (27, .d (.bool v2))], [(0, .var 25 (cv25 b))], 1, Fr.emp, [], 0⟩ (by kernel_rfl) ?_
    obtain ⟨v3, hx_10, h⟩ := bsome h
    refine RW.cut fokW 4 (⟨[(1, .ptr 0 0), (31, .d (.bool v3))], [(0, .var 25 (cv25 b))], 1, Fr.emp, [], 0⟩) ?_ ?_
    ·refine r_split 27 rfl (fun hb_12 => ?_) (fun hb_12 => ?_)
     ·have h := ifT hb_12 hx_10
      refine RunC.auX 2 ⟨[(1, .ptr 0 0), (27, .d (.bool true)), (29, .d (I b.Near))], [(0, .var 25 (cv25 b))], 1, Fr.emp, [], 0⟩ (by kernel_rfl) ?_
      obtain ⟨r0_1, hx_11, h⟩ := bsome h
      refine r_call rfl rfl (k50 b.Near 0 3 _ hx_11) rfl rfl ?_
      refine RunC.auX 1 ⟨[(1, .ptr 0 0), (31, .d (.bool r0_1))], [(0, .var 25 (cv25 b))], 1, Fr.emp, [], 0⟩ (by kernel_rfl) ?_
      obtain rfl := Option.some.inj h
      refine RunC.finJ (Can.kp (by kernel_rfl))
     ·have h := ifF hb_12 hx_10
      refine RunC.auX 4 ⟨[(1, .ptr 0 0), (31, .d (.bool false))], [(0, .var 25 (cv25 b))], 1, Fr.emp, [], 0⟩ (by kernel_rfl) ?_
      obtain rfl := Option.some.inj h
      refine RunC.finJ (Can.kp (by kernel_rfl))
    ·refine RW.au fokW 1 [] ⟨[(1, .ptr 0 0), (32, .d (.bool v3))], [(0, .var 25 (cv25 b))], 1, Fr.emp, [], 0⟩ (by kernel_rfl) ?_
     obtain ⟨v4, hx_13, h⟩ := bsome h
     refine RW.cut fokW 4 (⟨[(1, .ptr 0 0), (36, .d (.bool v4))], [(0, .var 25 (cv25 b))], 1, Fr.emp, [], 0⟩) ?_ ?_
     ·refine r_split 32 rfl (fun hb_15 => ?_) (fun hb_15 => ?_)
      ·have h := ifT hb_15 hx_13
       refine RunC.auX 2 ⟨[(1, .ptr 0 0), (32, .d (.bool true)), (34, .d (I b.Match))], [(0, .var 25 (cv25 b))], 1, Fr.emp, [], 0⟩ (by kernel_rfl) ?_
       obtain ⟨r0_2, hx_14, h⟩ := bsome h
       refine r_call rfl rfl (k50 b.Match 0 3 _ hx_14) rfl rfl ?_
       refine RunC.auX 1 ⟨[(1, .ptr 0 0), (36, .d (.bool r0_2))], [(0, .var 25 (cv25 b))], 1, Fr.emp, [], 0⟩ (by kernel_rfl) ?_
       obtain rfl := Option.some.inj h
       refine RunC.finJ (Can.kp (by kernel_rfl))
      ·have h := ifF hb_15 hx_13
       refine RunC.auX 4 ⟨[(1, .ptr 0 0), (36, .d (.bool false))], [(0, .var 25 (cv25 b))], 1, Fr.emp, [], 0⟩ (by kernel_rfl) ?_
       obtain rfl := Option.some.inj h
       refine RunC.finJ (Can.kp (by kernel_rfl))
     ·refine RW.au fokW 1 [] ⟨[(1, .ptr 0 0), (3, .d (.bool v4))], [(0, .var 25 (cv25 b))], 1, Fr.emp, [], 0⟩ (by kernel_rfl) ?_
      refine RW.nil ?_
      refine hQ_1 _ ?_
      obtain ⟨ok, hx_16, h⟩ := bsome h
      refine AW.jnSK (fun (ok : Bool) => ⟨[(1, .ptr 0 0), (3, .d (.bool ok))], [(0, .var 25 (cv25 b))], 1, Fr.emp, [], 0⟩) (c := ok) (fun K_16 hK_16 => ?_) ?_
      ·have h := hx_16
       refine AW.sa fokW [] ⟨[(1, .ptr 0 0), (3, .d (.bool v4)), (4, .d (I 0))], [(0, .var 25 (cv25 b))], 1, Fr.emp, [], 0⟩ (by kernel_rfl) ?_
       obtain ⟨ok1, hx_17, h⟩ := bsome h
       refine AW.jqSK (fun (ok1 : Bool) => ⟨[(1, .ptr 0 0), (3, .d (.bool ok1))], [(0, .var 25 (cv25 b))], 1, Fr.emp, [], 0⟩) (c := ok1) (fun K_17 hK_17 => ?_) ?_
       ·have h := hx_17
        refine AW.block ?_
        refine AW.whK (fun (⟨ok2, i⟩ : Bool × Int) => ⟨[(1, .ptr 0 0), (3, .d (.bool ok2)), (4, .d (I i))], [(0, .var 25 (cv25 b))], 1, Fr.emp, [], 0⟩) (g35_18 b) h (Can.kp (by kernel_rfl)) (fun s_18 c_18 h hb_18 K_18 hK_18 => ?_)
        obtain ⟨ok2, i⟩ := s_18
        unfold g35_18 at h
        refine AW.seqK (fun K_19 hK_19 => ?_)
        refine AW.srwK (fun Q_20 hQ_20 => ?_)
        refine RW.au fokW 2 [] ⟨[(1, .ptr 0 0), (3, .d (.bool ok2)), (4, .d (I i)), (38, .d (.bool ok2))], [(0, .var 25 (cv25 b))], 1, Fr.emp, [], 0⟩ (by kernel_rfl) ?_
        obtain ⟨v5, hx_21, h⟩ := bsome h
        refine RW.cut fokW 6 (⟨[(1, .ptr 0 0), (3, .d (.bool ok2)), (4, .d (I i)), (44, .d (.bool v5))], [(0, .var 25 (cv25 b))], 1, Fr.emp, [], 0⟩) ?_ ?_
        ·refine r_split 38 rfl (fun hb_22 => ?_) (fun hb_22 => ?_)
         ·have h := ifT hb_22 hx_21
          refine RunC.auX 3 ⟨[(1, .ptr 0 0), (3, .d (.bool ok2)), (4, .d (I i)), (38, .d (.bool true)), (39, .d (I i)), (41, .d (.sl 4 (List.map e58 b.Hanks)))], [(0, .var 25 (cv25 b))], 1, Fr.emp, [], 0⟩ (by kernel_rfl) ?_
          refine r_lenX rfl rfl lenm ?_
          refine RunC.auX 2 ⟨[(1, .ptr 0 0), (3, .d (.bool ok2)), (4, .d (I i)), (44, .d (.bool (decide (i < (b.Hanks.length : Int)))))], [(0, .var 25 (cv25 b))], 1, Fr.emp, [], 0⟩ (by kernel_rfl) ?_
          obtain rfl := Option.some.inj h
          refine RunC.finJ (Can.kp (by kernel_rfl))
         ·have h := ifF hb_22 hx_21
          refine RunC.auX 6 ⟨[(1, .ptr 0 0), (3, .d (.bool ok2)), (4, .d (I i)), (44, .d (.bool false))], [(0, .var 25 (cv25 b))], 1, Fr.emp, [], 0⟩ (by kernel_rfl) ?_
          obtain rfl := Option.some.inj h
          refine RunC.finJ (Can.kp (by kernel_rfl))
        ·refine RW.nil ?_
         refine hQ_20 _ ?_
         refine AW.cond rfl (fun hb_23 => ?_) (fun hb_23 => ?_)
         ·have h := ifT hb_23 h
          refine AW.skip ?_
          refine hK_19 _ ?_
          refine AW.seqK (fun K_24 hK_24 => ?_)
          refine AW.block ?_
          refine AW.rw ?_
          refine RW.au fokW 3 [] ⟨[(1, .ptr 0 0), (4, .d (I i)), (48, .d (.sl 4 (List.map e58 b.Hanks))), (49, .d (I i))], [(0, .var 25 (cv25 b))], 1, Fr.emp, [], 0⟩ (by kernel_rfl) ?_
          obtain ⟨p, hv_26, h⟩ := bsome h
          refine RW.one fokW (r_iaD trivial rfl rfl (ixL_ok hv_26).1 (row := e58 p) (mapget (ixL_ok hv_26).2) (r_end ?_))
          refine RW.au fokW 2 [] ⟨[(1, .ptr 0 0), (4, .d (I i)), (52, .agg [.d (I p.Weight.Low), .d (I p.Weight.High)])], [(0, .var 25 (cv25 b))], 1, Fr.emp, [], 0⟩ (by kernel_rfl) ?_
          obtain ⟨r0_3, hx_27, h⟩ := bsome h
          refine RW.one fokW (r_call trivial rfl (k64 p.Weight 1 60 _ hx_27) rfl rfl (r_end ?_))
          refine RW.au fokW 1 [] ⟨[(1, .ptr 0 0), (4, .d (I i)), (54, .d (.bool r0_3))], [(0, .var 25 (cv25 b))], 1, Fr.emp, [], 0⟩ (by kernel_rfl) ?_
          obtain ⟨v6, hx_28, h⟩ := bsome h
          refine RW.cut fokW 8 (⟨[(1, .ptr 0 0), (4, .d (I i)), (62, .d (.bool v6))], [(0, .var 25 (cv25 b))], 1, Fr.emp, [], 0⟩) ?_ ?_
          ·refine r_split 54 rfl (fun hb_30 => ?_) (fun hb_30 => ?_)
           ·have h := ifT hb_30 hx_28
            refine RunC.auX 3 ⟨[(1, .ptr 0 0), (4, .d (I i)), (54, .d (.bool true)), (56, .d (.sl 4 (List.map e58 b.Hanks))), (57, .d (I i))], [(0, .var 25 (cv25 b))], 1, Fr.emp, [], 0⟩ (by kernel_rfl) ?_
            refine r_iaD rfl rfl rfl (ixL_ok hv_26).1 (row := e58 p) (mapget (ixL_ok hv_26).2) ?_
            refine RunC.auX 2 ⟨[(1, .ptr 0 0), (4, .d (I i)), (54, .d (.bool true)), (60, .agg [.d (I p.Shade.Low), .d (I p.Shade.High)])], [(0, .var 25 (cv25 b))], 1, Fr.emp, [], 0⟩ (by kernel_rfl) ?_
            obtain ⟨r0_4, hx_29, h⟩ := bsome h
            refine r_call rfl rfl (k64 p.Shade 0 20 _ hx_29) rfl rfl ?_
            refine RunC.auX 1 ⟨[(1, .ptr 0 0), (4, .d (I i)), (62, .d (.bool r0_4))], [(0, .var 25 (cv25 b))], 1, Fr.emp, [], 0⟩ (by kernel_rfl) ?_
            obtain rfl := Option.some.inj h
            refine RunC.finJ (Can.kp (by kernel_rfl))
           ·have h := ifF hb_30 hx_28
            refine RunC.auX 8 ⟨[(1, .ptr 0 0), (4, .d (I i)), (62, .d (.bool false))], [(0, .var 25 (cv25 b))], 1, Fr.emp, [], 0⟩ (by kernel_rfl) ?_
            obtain rfl := Option.some.inj h
            refine RunC.finJ (Can.kp (by kernel_rfl))
          ·refine RW.au fokW 1 [] ⟨[(1, .ptr 0 0), (3, .d (.bool v6)), (4, .d (I i))], [(0, .var 25 (cv25 b))], 1, Fr.emp, [], 0⟩ (by kernel_rfl) ?_
           refine RW.nil ?_
           refine hK_24 _ ?_
           refine AW.ra fokW [] ⟨[(1, .ptr 0 0), (3, .d (.bool v6)), (4, .d (I (wr (i + 1))))], [(0, .var 25 (cv25 b))], 1, Fr.emp, [], 0⟩ (by kernel_rfl) ?_
           obtain rfl := Option.some.inj h
           exact hK_18 _ _ rfl (Can.kp (by kernel_rfl))
         ·have h := ifF hb_23 h
          refine AW.exit ?_
          obtain rfl := Option.some.inj h
          obtain rfl := hb_18 _ rfl
          exact hK_17 _ (Can.kp (by kernel_rfl))
       ·obtain rfl := Option.some.inj h
        exact hK_16 _ (Can.kp (by kernel_rfl))
      ·obtain ⟨ok3, hx_31, h⟩ := bsome h
       refine AW.jnSK (fun (ok3 : Bool) => ⟨[(3, .d (.bool ok3))], [], 1, Fr.emp, [], 0⟩) (c := ok3) (fun K_31 hK_31 => ?_) ?_
       ·have h := hx_31
        refine AW.sa fokW [] ⟨[(1, .ptr 0 0), (3, .d (.bool ok)), (5, .d (I 0))], [(0, .var 25 (cv25 b))], 1, Fr.emp, [], 0⟩ (by kernel_rfl) ?_
        obtain ⟨ok4, hx_32, h⟩ := bsome h
        refine AW.jqSK (fun (ok4 : Bool) => ⟨[(3, .d (.bool ok4))], [], 1, Fr.emp, [], 0⟩) (c := ok4) (fun K_32 hK_32 => ?_) ?_
        ·have h := hx_32
         refine AW.block ?_
         refine AW.whK (fun (⟨ok5, i1⟩ : Bool × Int) => ⟨[(1, .ptr 0 0), (3, .d (.bool ok5)), (5, .d (I i1))], [(0, .var 25 (cv25 b))], 1, Fr.emp, [], 0⟩) (g35_33 b) h (Can.kp (by kernel_rfl)) (fun s_33 c_33 h hb_33 K_33 hK_33 => ?_)
         obtain ⟨ok5, i1⟩ := s_33
         unfold g35_33 at h
         refine AW.seqK (fun K_34 hK_34 => ?_)
         refine AW.srwK (fun Q_35 hQ_35 => ?_)
         refine RW.au fokW 2 [] ⟨[(1, .ptr 0 0), (3, .d (.bool ok5)), (5, .d (I i1)), (64, .d (.bool ok5))], [(0, .var 25 (cv25 b))], 1, Fr.emp, [], 0⟩ (by kernel_rfl) ?_
         obtain ⟨v7, hx_36, h⟩ := bsome h
         refine RW.cut fokW 6 (⟨[(1, .ptr 0 0), (3, .d (.bool ok5)), (5, .d (I i1)), (70, .d (.bool v7))], [(0, .var 25 (cv25 b))], 1, Fr.emp, [], 0⟩) ?_ ?_
         ·refine r_split 64 rfl (fun hb_37 => ?_) (fun hb_37 => ?_)
          ·have h := ifT hb_37 hx_36
           refine RunC.auX 3 ⟨[(1, .ptr 0 0), (3, .d (.bool ok5)), (5, .d (I i1)), (64, .d (.bool true)), (65, .d (I i1)), (67, .d (.sl 3 (List.map e69 b.Horses)))], [(0, .var 25 (cv25 b))], 1, Fr.emp, [], 0⟩ (by kernel_rfl) ?_
           refine r_lenX rfl rfl lenm ?_
           refine RunC.auX 2 ⟨[(1, .ptr 0 0), (3, .d (.bool ok5)), (5, .d (I i1)), (70, .d (.bool (decide (i1 < (b.Horses.length : Int)))))], [(0, .var 25 (cv25 b))], 1, Fr.emp, [], 0⟩ (by kernel_rfl) ?_
           obtain rfl := Option.some.inj h
           refine RunC.finJ (Can.kp (by kernel_rfl))
          ·have h := ifF hb_37 hx_36
           refine RunC.auX 6 ⟨[(1, .ptr 0 0), (3, .d (.bool ok5)), (5, .d (I i1)), (70, .d (.bool false))], [(0, .var 25 (cv25 b))], 1, Fr.emp, [], 0⟩ (by kernel_rfl) ?_
           obtain rfl := Option.some.inj h
           refine RunC.finJ (Can.kp (by kernel_rfl))
         ·refine RW.nil ?_
          refine hQ_35 _ ?_
          refine AW.cond rfl (fun hb_38 => ?_) (fun hb_38 => ?_)
          ·have h := ifT hb_38 h
           refine AW.skip ?_
           refine hK_34 _ ?_
           refine AW.seqK (fun K_39 hK_39 => ?_)
           refine AW.block ?_
           refine AW.srwK (fun Q_40 hQ_40 => ?_)
           refine RW.au fokW 3 [] ⟨[(1, .ptr 0 0), (5, .d (I i1)), (74, .d (.sl 3 (List.map e69 b.Horses))), (75, .d (I i1))], [(0, .var 25 (cv25 b))], 1, Fr.emp, [], 0⟩ (by kernel_rfl) ?_
           obtain ⟨p1, hv_41, h⟩ := bsome h
           refine RW.one fokW (r_iaD trivial rfl rfl (ixL_ok hv_41).1 (row := e69 p1) (mapget (ixL_ok hv_41).2) (r_end ?_))
           refine RW.au fokW 3 [] ⟨[(1, .ptr 0 0), (5, .d (I i1)), (6, .ptr 1 0)], [(1, .var 69 [.d (I p1.Mane), .d (I p1.Tail), .d (I p1.Shade)]), (0, .var 25 (cv25 b))], 2, Fr.emp, [], 0⟩ (by kernel_rfl) ?_
           refine RW.nil ?_
           refine hQ_40 _ ?_
           refine AW.rw ?_
           refine RW.au fokW 2 [] ⟨[(1, .ptr 0 0), (5, .d (I i1)), (6, .ptr 1 0), (79, .d (I p1.Mane))], [(1, .var 69 [.d (I p1.Mane), .d (I p1.Tail), .d (I p1.Shade)]), (0, .var 25 (cv25 b))], 2, Fr.emp, [], 0⟩ (by kernel_rfl) ?_
           obtain ⟨r0_5, hx_43, h⟩ := bsome h
           refine RW.one fokW (r_call trivial rfl (k50 p1.Mane 1 30 _ hx_43) rfl rfl (r_end ?_))
           refine RW.au fokW 1 [] ⟨[(1, .ptr 0 0), (5, .d (I i1)), (6, .ptr 1 0), (81, .d (.bool r0_5))], [(1, .var 69 [.d (I p1.Mane), .d (I p1.Tail), .d (I p1.Shade)]), (0, .var 25 (cv25 b))], 2, Fr.emp, [], 0⟩ (by kernel_rfl) ?_
           obtain ⟨v8, hx_44, h⟩ := bsome h
           refine RW.cut fokW 4 (⟨[(1, .ptr 0 0), (5, .d (I i1)), (85, .d (.bool v8))], [(0, .var 25 (cv25 b))], 2, Fr.emp, [], 0⟩) ?_ ?_
           ·refine r_split 81 rfl (fun hb_46 => ?_) (fun hb_46 => ?_)
            ·have h := ifT hb_46 hx_44
             refine RunC.auX 2 ⟨[(1, .ptr 0 0), (5, .d (I i1)), (81, .d (.bool true)), (83, .d (I p1.Tail))], [(1, .var 69 [.d (I p1.Mane), .d (I p1.Tail), .d (I p1.Shade)]), (0, .var 25 (cv25 b))], 2, Fr.emp, [], 0⟩ (by kernel_rfl) ?_
             obtain ⟨r0_6, hx_45, h⟩ := bsome h
             refine r_call rfl rfl (k50 p1.Tail 1 30 _ hx_45) rfl rfl ?_
             refine RunC.auX 1 ⟨[(1, .ptr 0 0), (5, .d (I i1)), (85, .d (.bool r0_6))], [(1, .var 69 [.d (I p1.Mane), .d (I p1.Tail), .d (I p1.Shade)]), (0, .var 25 (cv25 b))], 2, Fr.emp, [], 0⟩ (by kernel_rfl) ?_
             obtain rfl := Option.some.inj h
             refine RunC.finJ (Can.kp (by kernel_rfl))
            ·have h := ifF hb_46 hx_44
             refine RunC.auX 4 ⟨[(1, .ptr 0 0), (5, .d (I i1)), (85, .d (.bool false))], [(1, .var 69 [.d (I p1.Mane), .d (I p1.Tail), .d (I p1.Shade)]), (0, .var 25 (cv25 b))], 2, Fr.emp, [], 0⟩ (by kernel_rfl) ?_
             obtain rfl := Option.some.inj h
             refine RunC.finJ (Can.kp (by kernel_rfl))
           ·refine RW.au fokW 1 [] ⟨[(1, .ptr 0 0), (3, .d (.bool v8)), (5, .d (I i1))], [(0, .var 25 (cv25 b))], 2, Fr.emp, [], 0⟩ (by kernel_rfl) ?_
            refine RW.nil ?_
            refine hK_39 _ ?_
            refine AW.ra fokW [] ⟨[(1, .ptr 0 0), (3, .d (.bool v8)), (5, .d (I (wr (i1 + 1))))], [(0, .var 25 (cv25 b))], 2, Fr.emp, [], 0⟩ (by kernel_rfl) ?_
            obtain rfl := Option.some.inj h
            exact hK_33 _ _ rfl (Can.kp (by kernel_rfl))
          ·have h := ifF hb_38 h
           refine AW.exit ?_
           obtain rfl := Option.some.inj h
           obtain rfl := hb_33 _ rfl
           exact hK_32 _ (Can.kp (by kernel_rfl))
        ·obtain rfl := Option.some.inj h
         exact hK_31 _ (Can.kp (by kernel_rfl))
       ·refine AW.sa fokW [] ⟨[(2, .d (.bool ok3))], [], 1, Fr.emp, [], 0⟩ (by kernel_rfl) ?_
        obtain rfl := Option.some.inj h
        exact AW.ret (hR_0 _ (retX (.cons (.tmp rfl) .nil) (.refl _) rfl (by kernel_rfl) (by kernel_rfl)))
def g39 (n : Int) (many : Int) : Option Int := bif (decide (many < 1)) then (some 0) else ((must (decide (many ≠ 0))).bind fun _ => bif (decide ((n.tmod many) < 0)) then (some (wr ((n.tmod many) + many))) else (some (n.tmod many)))
theorem k39 (n : Int) (many : Int) (r : Int) (h : g39 n many = some r) : SCall Tryd.prog Gs 39 [.d (I n), .d (I many)] [] 0 Fr.emp (.d (I r)) [] 0 Fr.emp := by
 unfold g39 at h
 refine SCall.mkK Tryd.func39 c39 rfl rfl (by kernel_rfl) (fun Q_0 hR_0 hN_0 => ?_)
 refine AW.sa fokW [] ⟨[(0, .d (I n)), (1, .d (I many))], [], 0, Fr.emp, [], 0⟩ (by kernel_rfl) ?_
 refine AW.seqK (fun K_1 hK_1 => ?_)
 refine AW.sa fokW [] ⟨[(0, .d (I n)), (1, .d (I many)), (7, .d (.bool (decide (many < 1))))], [], 0, Fr.emp, [], 0⟩ (by kernel_rfl) ?_
 refine AW.cond rfl (fun hb_2 => ?_) (fun hb_2 => ?_)
 ·have h := ifT hb_2 h
  refine AW.sa fokW [] ⟨[(4, .d (I 0))], [], 0, Fr.emp, [], 0⟩ (by kernel_rfl) ?_
  obtain rfl := Option.some.inj h
  exact AW.ret (hR_0 _ (retX (.cons (.tmp rfl) .nil) (.refl _) rfl (by kernel_rfl) (by kernel_rfl)))
 ·have h := ifF hb_2 h
  refine AW.skip ?_
  refine hK_1 _ ?_
  refine AW.srwK (fun Q_3 hQ_3 => ?_)
  refine RW.au fokW 2 [] ⟨[(1, .d (I many)), (8, .d (I n)), (9, .d (I many))], [], 0, Fr.emp, [], 0⟩ (by kernel_rfl) ?_
  obtain ⟨_, hv_4, h⟩ := bsome h
  refine RW.one fokW (r_rem trivial rfl rfl (of_decide_eq_true (must_ok hv_4)) (r_end ?_))
  refine RW.au fokW 1 [] ⟨[(1, .d (I many)), (5, .d (I (n.tmod many)))], [], 0, Fr.emp, [], 0⟩ (by kernel_rfl) ?_
  refine RW.nil ?_
  refine hQ_3 _ ?_
  refine AW.seqK (fun K_5 hK_5 => ?_)
  refine AW.sa fokW [] ⟨[(1, .d (I many)), (5, .d (I (n.tmod many))), (12, .d (.bool (decide ((n.tmod many) < 0))))], [], 0, Fr.emp, [], 0⟩ (by kernel_rfl) ?_
  refine AW.cond rfl (fun hb_6 => ?_) (fun hb_6 => ?_)
  ·have h := ifT hb_6 h
   refine AW.ra fokW [] ⟨[(5, .d (I (wr ((n.tmod many) + many))))], [], 0, Fr.emp, [], 0⟩ (by kernel_rfl) ?_
   refine hK_5 _ ?_
   refine AW.sa fokW [] ⟨[(4, .d (I (wr ((n.tmod many) + many))))], [], 0, Fr.emp, [], 0⟩ (by kernel_rfl) ?_
   obtain rfl := Option.some.inj h
   exact AW.ret (hR_0 _ (retX (.cons (.tmp rfl) .nil) (.refl _) rfl (by kernel_rfl) (by kernel_rfl)))
  ·have h := ifF hb_6 h
   refine AW.skip ?_
   refine hK_5 _ ?_
   refine AW.sa fokW [] ⟨[(4, .d (I (n.tmod many)))], [], 0, Fr.emp, [], 0⟩ (by kernel_rfl) ?_
   obtain rfl := Option.some.inj h
   exact AW.ret (hR_0 _ (retX (.cons (.tmp rfl) .nil) (.refl _) rfl (by kernel_rfl) (by kernel_rfl)))
end Go.Proofs.Th
namespace Go.Proofs.Th
open Go Go.Abs Go.Proofs
def g46_2 (below : Int) : Int → Int → Int → Option (Ctl (Int) (Bool)) := fun i p last => (bif (decide (p ≤ last)) then (some true) else (some (decide (below ≤ p)))).bind fun v => bif v then (some (.brk false)) else (some (.next p))
def g46 (l : (List Int)) (below : Int) : Option Bool := bindC (eachC (g46_2 below) l 0 (-1)) fun last => some true
theorem k46 (l : (List Int)) (below : Int) (r : Bool) (h : g46 l below = some r) : SCall Tryd.prog Gs 46 [.d (.sl 1 (List.map e3 l)), .d (I below)] [] 0 Fr.emp (.d (.bool r)) [] 0 Fr.emp := by
 unfold g46 at h
 refine SCall.mkK Tryd.func46 c46 rfl rfl (by kernel_rfl) (fun Q_0 hR_0 hN_0 => ?_)
 refine AW.sa fokW [] ⟨[(0, .d (.sl 1 (List.map e3 l))), (1, .d (I below))], [], 0, Fr.emp, [], 0⟩ (by kernel_rfl) ?_
 refine AW.sa fokW [] ⟨[(0, .d (.sl 1 (List.map e3 l))), (1, .d (I below)), (5, .d (I (-1)))], [], 0, Fr.emp, [], 0⟩ (by kernel_rfl) ?_
 refine AW.seqK (fun K_1 hK_1 => ?_)
 refine AW.sa fokW [] ⟨[(0, .d (.sl 1 (List.map e3 l))), (1, .d (I below)), (5, .d (I (-1))), (6, .d (I 0))], [], 0, Fr.emp, [], 0⟩ (by kernel_rfl) ?_
 refine AW.block ?_
 refine AW.sln (t := 0) rfl (fun hN_2 => ?_)
 rw [List.length_map] at hN_2
 obtain ⟨out_2, hx_2, hk_2⟩ := bsomeC h
 refine AW.evCK (fun (i : Int) (last : Int) => ⟨[(0, .d (.sl 1 (List.map e3 l))), (1, .d (I below)), (5, .d (I last)), (6, .d (I i))], [], 0, Fr.emp, [], 0⟩) (g46_2 below) hx_2 (Can.kp (by kernel_rfl)) (fun i p last hi_2 hl_2 hp_2 c_2 h hb_2 K_2 hK_2 => ?_) (fun i last hi_2 hl_2 hout => ?_)
 ·unfold g46_2 at h
  refine AW.seqK (fun K_3 hK_3 => ?_)
  refine AW.srwK (fun Q_4 hQ_4 => ?_)
  refine RW.au fokW 2 [] ⟨[(0, .d (.sl 1 (List.map e3 l))), (1, .d (I below)), (5, .d (I last)), (6, .d (I i)), (7, .d (I i)), (8, .d (.sl 1 (List.map e3 l)))], [], 0, Fr.emp, [], 0⟩ (by kernel_rfl) ?_
  refine RW.one fokW (r_lenX trivial rfl lenm (r_end ?_))
  refine RW.au fokW 1 [] ⟨[(0, .d (.sl 1 (List.map e3 l))), (1, .d (I below)), (5, .d (I last)), (6, .d (I i)), (10, .d (.bool (decide (i < (l.length : Int)))))], [], 0, Fr.emp, [], 0⟩ (by kernel_rfl) ?_
  refine RW.nil ?_
  refine hQ_4 _ ?_
  refine AW.cond rfl (fun hb_5 => ?_) (fun hb_5 => False.elim (by have := of_decide_eq_false hb_5; omega))
  refine AW.skip ?_
  refine hK_3 _ ?_
  refine AW.seqK (fun K_6 hK_6 => ?_)
  refine AW.block ?_
  refine AW.seqK (fun K_7 hK_7 => ?_)
  refine AW.srwK (fun Q_8 hQ_8 => ?_)
  refine RW.au fokW 2 [] ⟨[(0, .d (.sl 1 (List.map e3 l))), (1, .d (I below)), (5, .d (I last)), (6, .d (I i)), (13, .d (.sl 1 (List.map e3 l))), (14, .d (I i))], [], 0, Fr.emp, [], 0⟩ (by kernel_rfl) ?_
  refine RW.one fokW (r_iaD trivial rfl rfl hi_2 (row := e3 p) (mapget hp_2) (r_end ?_))
  refine RW.au fokW 4 [] ⟨[(0, .d (.sl 1 (List.map e3 l))), (1, .d (I below)), (6, .d (I i)), (19, .d (.bool (decide (p ≤ last))))], [], 0, Fr.emp, [], 0⟩ (by kernel_rfl) ?_
  obtain ⟨v, hx_9, h⟩ := bsome h
  refine RW.cut fokW 7 (⟨[(0, .d (.sl 1 (List.map e3 l))), (1, .d (I below)), (6, .d (I i)), (26, .d (.bool v))], [], 0, Fr.emp, [], 0⟩) ?_ ?_
  ·refine r_split 19 rfl (fun hb_10 => ?_) (fun hb_10 => ?_)
   ·have h := ifT hb_10 hx_9
    refine RunC.auX 7 ⟨[(0, .d (.sl 1 (List.map e3 l))), (1, .d (I below)), (6, .d (I i)), (26, .d (.bool true))], [], 0, Fr.emp, [], 0⟩ (by kernel_rfl) ?_
    obtain rfl := Option.some.inj h
    refine RunC.finJ (Can.kp (by kernel_rfl))
   ·have h := ifF hb_10 hx_9
    refine RunC.auX 2 ⟨[(0, .d (.sl 1 (List.map e3 l))), (1, .d (I below)), (6, .d (I i)), (19, .d (.bool false)), (20, .d (.sl 1 (List.map e3 l))), (21, .d (I i))], [], 0, Fr.emp, [], 0⟩ (by kernel_rfl) ?_
    refine r_iaD rfl rfl rfl hi_2 (row := e3 p) (mapget hp_2) ?_
    refine RunC.auX 4 ⟨[(0, .d (.sl 1 (List.map e3 l))), (1, .d (I below)), (6, .d (I i)), (26, .d (.bool (decide (below ≤ p))))], [], 0, Fr.emp, [], 0⟩ (by kernel_rfl) ?_
    obtain rfl := Option.some.inj h
    refine RunC.finJ (Can.kp (by kernel_rfl))
  ·refine RW.nil ?_
   refine hQ_8 _ ?_
   refine AW.cond rfl (fun hb_11 => ?_) (fun hb_11 => ?_)
   ·have h := ifT hb_11 h
    refine AW.sa fokW [] ⟨[(4, .d (.bool false))], [], 0, Fr.emp, [], 0⟩ (by kernel_rfl) ?_
    obtain rfl := Option.some.inj h
    have e_1 := hb_2 _ rfl
    subst e_1
    obtain rfl := Aft.bk hk_2
    exact AW.ret (hR_0 _ (retX (.cons (.tmp rfl) .nil) (.refl _) rfl (by kernel_rfl) (by kernel_rfl)))
   ·have h := ifF hb_11 h
    refine AW.skip ?_
    refine hK_7 _ ?_
    refine AW.rw ?_
    refine RW.au fokW 2 [] ⟨[(0, .d (.sl 1 (List.map e3 l))), (1, .d (I below)), (6, .d (I i)), (27, .d (.sl 1 (List.map e3 l))), (28, .d (I i))], [], 0, Fr.emp, [], 0⟩ (by kernel_rfl) ?_
    refine RW.one fokW (r_iaD trivial rfl rfl hi_2 (row := e3 p) (mapget hp_2) (r_end ?_))
    refine RW.au fokW 2 [] ⟨[(0, .d (.sl 1 (List.map e3 l))), (1, .d (I below)), (5, .d (I p)), (6, .d (I i))], [], 0, Fr.emp, [], 0⟩ (by kernel_rfl) ?_
    refine RW.nil ?_
    refine hK_6 _ ?_
    refine AW.ra fokW [] ⟨[(0, .d (.sl 1 (List.map e3 l))), (1, .d (I below)), (5, .d (I p)), (6, .d (I (wr (i + 1))))], [], 0, Fr.emp, [], 0⟩ (by kernel_rfl) ?_
    obtain rfl := Option.some.inj h
    have ew : wr (i + 1) = i + 1 := inext (N := (l.length : Int)) (by omega) (by omega) (by omega)
    rw [ew]
    exact hK_2 _ _ rfl (Can.kp (by kernel_rfl))
 ·subst hout
  have h := Aft.nx hk_2
  refine AW.seqK (fun K_13 hK_13 => ?_)
  refine AW.srwK (fun Q_14 hQ_14 => ?_)
  refine RW.au fokW 2 [] ⟨[(0, .d (.sl 1 (List.map e3 l))), (1, .d (I below)), (5, .d (I last)), (6, .d (I i)), (7, .d (I i)), (8, .d (.sl 1 (List.map e3 l)))], [], 0, Fr.emp, [], 0⟩ (by kernel_rfl) ?_
  refine RW.one fokW (r_lenX trivial rfl lenm (r_end ?_))
  refine RW.au fokW 1 [] ⟨[(0, .d (.sl 1 (List.map e3 l))), (1, .d (I below)), (5, .d (I last)), (6, .d (I i)), (10, .d (.bool (decide (i < (l.length : Int)))))], [], 0, Fr.emp, [], 0⟩ (by kernel_rfl) ?_
  refine RW.nil ?_
  refine hQ_14 _ ?_
  refine AW.cond rfl (fun hb_15 => False.elim (by have := of_decide_eq_true hb_15; omega)) (fun hb_15 => ?_)
  refine AW.exit ?_
  refine hK_1 _ ?_
  refine AW.sa fokW [] ⟨[(4, .d (.bool true))], [], 0, Fr.emp, [], 0⟩ (by kernel_rfl) ?_
  obtain rfl := Option.some.inj h
  exact AW.ret (hR_0 _ (retX (.cons (.tmp rfl) .nil) (.refl _) rfl (by kernel_rfl) (by kernel_rfl)))
def g47_2 (l : (List Int)) : Int → HairHorse → (List HairHorse) → Option (List HairHorse) := fun i p l1 => (g96 l i).bind fun r0_1 => bif (decide (r0_1 < 0)) then ((appL 24 l1 [p]).bind fun l2 => some l2) else (some l1)
def g47 (b : HairBook) (l : (List Int)) : Option HairBook := (eachS (g47_2 l) b.Horses 0 ([] : List HairHorse)).bind fun l1 => some (HairBook.mk b.Hanks l1 b.Dark b.Near b.Match)
theorem k47 (b : HairBook) (l : (List Int)) (r : HairBook) (h : g47 b l = some r) : SCall Tryd.prog Gs 47 [.agg (cv25 b), .d (.sl 1 (List.map e3 l))] [] 0 Fr.emp (.agg (cv25 r)) [] 0 Fr.emp := by
 unfold g47 at h
 refine SCall.mkK Tryd.func47 c47 rfl rfl (by kernel_rfl) (fun Q_0 hR_0 hN_0 => ?_)
 refine AW.sa fokW [] ⟨[(1, .d (.sl 1 (List.map e3 l))), (2, .ptr 0 0), (4, .ptr 1 0)], [(1, .var 25 [.d (.nilSl), .d (.nilSl), .d (I 0), .d (I 0), .d (I 0)]), (0, .var 25 (cv25 b))], 2, Fr.emp, [], 0⟩ (by kernel_rfl) ?_
 refine AW.sa fokW [] ⟨[(1, .d (.sl 1 (List.map e3 l))), (2, .ptr 0 0), (4, .ptr 1 0), (5, .ptr 2 0)], [(2, .var 25 (cv25 b)), (1, .var 25 [.d (.nilSl), .d (.nilSl), .d (I 0), .d (I 0), .d (I 0)]), (0, .var 25 (cv25 b))], 3, Fr.emp, [], 0⟩ (by kernel_rfl) ?_
 refine AW.sa fokW [] ⟨[(1, .d (.sl 1 (List.map e3 l))), (2, .ptr 0 0), (4, .ptr 1 0), (5, .ptr 2 0)], [(2, .var 25 [.d (.sl 4 (List.map e58 b.Hanks)), .d (.nilSl), .d (I b.Dark), .d (I b.Near), .d (I b.Match)]), (1, .var 25 [.d (.nilSl), .d (.nilSl), .d (I 0), .d (I 0), .d (I 0)]), (0, .var 25 (cv25 b))], 3, Fr.emp, [], 0⟩ (by kernel_rfl) ?_
 refine AW.seqK (fun K_1 hK_1 => ?_)
 refine AW.sa fokW [] ⟨[(1, .d (.sl 1 (List.map e3 l))), (2, .ptr 0 0), (4, .ptr 1 0), (5, .ptr 2 0), (6, .d (I 0))], [(2, .var 25 [.d (.sl 4 (List.map e58 b.Hanks)), .d (.nilSl), .d (I b.Dark), .d (I b.Near), .d (I b.Match)]), (1, .var 25 [.d (.nilSl), .d (.nilSl), .d (I 0), .d (I 0), .d (I 0)]), (0, .var 25 (cv25 b))], 3, Fr.emp, [], 0⟩ (by kernel_rfl) ?_
 refine AW.block ?_
 refine AW.slh (r := 0) (off := 1) rfl rfl (fun hN_2 => ?_)
 rw [List.length_map] at hN_2
 obtain ⟨out_2, hx_2, h⟩ := bsome h
 refine AW.evSK (fun (i : Int) (l1 : List HairHorse) => ⟨[(1, .d (.sl 1 (List.map e3 l))), (2, .ptr 0 0), (4, .ptr 1 0), (5, .ptr 2 0), (6, .d (I i))], [(2, .var 25 [.d (.sl 4 (List.map e58 b.Hanks)), .own 3 (List.map e69 l1).length, .d (I b.Dark), .d (I b.Near), .d (I b.Match)]), (3, .row 69 3 (List.map e69 l1)), (1, .var 25 [.d (.nilSl), .d (.nilSl), .d (I 0), .d (I 0), .d (I 0)]), (0, .var 25 (cv25 b))], 4, Fr.emp, [], 0⟩) (g47_2 l) hx_2 (Can.trans (Can.thawH 2 1 25 69 3 rfl rfl rfl) (Can.kp (by kernel_rfl))) (fun i p l1 hi_2 hl_2 hp_2 c_2 h K_2 hK_2 => ?_) (fun i l1 hi_2 hl_2 hout => ?_)
 ·unfold g47_2 at h
  refine AW.seqK (fun K_3 hK_3 => ?_)
  refine AW.srwK (fun Q_4 hQ_4 => ?_)
  refine RW.au fokW 3 [] ⟨[(1, .d (.sl 1 (List.map e3 l))), (2, .ptr 0 0), (4, .ptr 1 0), (5, .ptr 2 0), (6, .d (I i)), (9, .d (I i)), (11, .d (.sl 3 (List.map e69 b.Horses)))], [(2, .var 25 [.d (.sl 4 (List.map e58 b.Hanks)), .own 3 (List.map e69 l1).length, .d (I b.Dark), .d (I b.Near), .d (I b.Match)]), (3, .row 69 3 (List.map e69 l1)), (1, .var 25 [.d (.nilSl), .d (.nilSl), .d (I 0), .d (I 0), .d (I 0)]), (0, .var 25 (cv25 b))], 4, Fr.emp, [], 0⟩ (by kernel_rfl) ?_
  refine RW.one fokW (r_lenX trivial rfl lenm (r_end ?_))
  refine RW.au fokW 1 [] ⟨[(1, .d (.sl 1 (List.map e3 l))), (2, .ptr 0 0), (4, .ptr 1 0), (5, .ptr 2 0), (6, .d (I i)), (13, .d (.bool (decide (i < (b.Horses.length : Int)))))], [(2, .var 25 [.d (.sl 4 (List.map e58 b.Hanks)), .own 3 (List.map e69 l1).length, .d (I b.Dark), .d (I b.Near), .d (I b.Match)]), (3, .row 69 3 (List.map e69 l1)), (1, .var 25 [.d (.nilSl), .d (.nilSl), .d (I 0), .d (I 0), .d (I 0)]), (0, .var 25 (cv25 b))], 4, Fr.emp, [], 0⟩ (by kernel_rfl) ?_
  refine RW.nil ?_
  refine hQ_4 _ ?_
  refine AW.cond rfl (fun hb_5 => ?_) (fun hb_5 => False.elim (by have := of_decide_eq_false hb_5; omega))
  refine AW.skip ?_
  refine hK_3 _ ?_
  refine AW.seqK (fun K_6 hK_6 => ?_)
  refine AW.block ?_
  refine AW.srwK (fun Q_7 hQ_7 => ?_)
  refine RW.au fokW 2 [] ⟨[(1, .d (.sl 1 (List.map e3 l))), (2, .ptr 0 0), (4, .ptr 1 0), (5, .ptr 2 0), (6, .d (I i)), (16, .d (.sl 1 (List.map e3 l))), (17, .d (I i))], [(2, .var 25 [.d (.sl 4 (List.map e58 b.Hanks)), .own 3 (List.map e69 l1).length, .d (I b.Dark), .d (I b.Near), .d (I b.Match)]), (3, .row 69 3 (List.map e69 l1)), (1, .var 25 [.d (.nilSl), .d (.nilSl), .d (I 0), .d (I 0), .d (I 0)]), (0, .var 25 (cv25 b))], 4, Fr.emp, [], 0⟩ (by kernel_rfl) ?_
  obtain ⟨r0_1, hx_8, h⟩ := bsome h
  refine RW.one fokW (r_call trivial rfl (k96 l i _ hx_8) rfl rfl (r_end ?_))
  refine RW.au fokW 1 [] ⟨[(1, .d (.sl 1 (List.map e3 l))), (2, .ptr 0 0), (4, .ptr 1 0), (5, .ptr 2 0), (6, .d (I i)), (19, .d (.bool (decide (r0_1 < 0))))], [(2, .var 25 [.d (.sl 4 (List.map e58 b.Hanks)), .own 3 (List.map e69 l1).length, .d (I b.Dark), .d (I b.Near), .d (I b.Match)]), (3, .row 69 3 (List.map e69 l1)), (1, .var 25 [.d (.nilSl), .d (.nilSl), .d (I 0), .d (I 0), .d (I 0)]), (0, .var 25 (cv25 b))], 4, Fr.emp, [], 0⟩ (by kernel_rfl) ?_
  refine RW.nil ?_
  refine hQ_7 _ ?_
  refine AW.cond rfl (fun hb_9 => ?_) (fun hb_9 => ?_)
  ·have h := ifT hb_9 h
   refine AW.drw fokW ?_
   refine RunC.auX 5 ⟨[(1, .d (.sl 1 (List.map e3 l))), (2, .ptr 0 0), (4, .ptr 1 0), (5, .ptr 2 0), (6, .d (I i)), (21, .own 3 (List.map e69 l1).length), (23, .d (.sl 3 (List.map e69 b.Horses))), (24, .d (I i))], [(2, .var 25 [.d (.sl 4 (List.map e58 b.Hanks)), .own 3 (List.map e69 l1).length, .d (I b.Dark), .d (I b.Near), .d (I b.Match)]), (3, .row 69 3 (List.map e69 l1)), (1, .var 25 [.d (.nilSl), .d (.nilSl), .d (I 0), .d (I 0), .d (I 0)]), (0, .var 25 (cv25 b))], 4, Fr.emp, [], 0⟩ (by kernel_rfl) ?_
   refine r_iaD trivial rfl rfl hi_2 (row := e69 p) (mapget hp_2) ?_
   refine RunC.auX 2 ⟨[(1, .d (.sl 1 (List.map e3 l))), (2, .ptr 0 0), (4, .ptr 1 0), (5, .ptr 2 0), (6, .d (I i)), (21, .own 3 (List.map e69 l1).length), (27, .own 4 (List.map e69 [p]).length)], [(4, .row 69 3 (List.map e69 [p])), (2, .var 25 [.d (.sl 4 (List.map e58 b.Hanks)), .own 3 (List.map e69 l1).length, .d (I b.Dark), .d (I b.Near), .d (I b.Match)]), (3, .row 69 3 (List.map e69 l1)), (1, .var 25 [.d (.nilSl), .d (.nilSl), .d (I 0), .d (I 0), .d (I 0)]), (0, .var 25 (cv25 b))], 5, Fr.emp, [], 0⟩ (by kernel_rfl) ?_
   obtain ⟨l2, hv_11, h⟩ := bsome h
   refine r_apO trivial rfl rfl rfl rfl rfl rfl (apz hv_11 e69) (apr hv_11 e69) ?_
   refine RunC.auX 2 ⟨[(1, .d (.sl 1 (List.map e3 l))), (2, .ptr 0 0), (4, .ptr 1 0), (5, .ptr 2 0), (6, .d (I i))], [(2, .var 25 [.d (.sl 4 (List.map e58 b.Hanks)), .own 3 (List.map e69 l2).length, .d (I b.Dark), .d (I b.Near), .d (I b.Match)]), (3, .row 69 3 (List.map e69 l2)), (4, .row 69 3 (List.map e69 [p])), (1, .var 25 [.d (.nilSl), .d (.nilSl), .d (I 0), .d (I 0), .d (I 0)]), (0, .var 25 (cv25 b))], 5, Fr.emp, [], 0⟩ (by kernel_rfl) ?_
   refine RunC.fin ⟨[(1, .d (.sl 1 (List.map e3 l))), (2, .ptr 0 0), (4, .ptr 1 0), (5, .ptr 2 0), (6, .d (I i))], [(2, .var 25 [.d (.sl 4 (List.map e58 b.Hanks)), .own 3 (List.map e69 l2).length, .d (I b.Dark), .d (I b.Near), .d (I b.Match)]), (3, .row 69 3 (List.map e69 l2)), (1, .var 25 [.d (.nilSl), .d (.nilSl), .d (I 0), .d (I 0), .d (I 0)]), (0, .var 25 (cv25 b))], 5, Fr.emp, [], 0⟩ (by kernel_rfl) (by kernel_rfl) ?_
   refine hK_6 _ ?_
   refine AW.ra fokW [] ⟨[(1, .d (.sl 1 (List.map e3 l))), (2, .ptr 0 0), (4, .ptr 1 0), (5, .ptr 2 0), (6, .d (I (wr (i + 1))))], [(2, .var 25 [.d (.sl 4 (List.map e58 b.Hanks)), .own 3 (List.map e69 l2).length, .d (I b.Dark), .d (I b.Near), .d (I b.Match)]), (3, .row 69 3 (List.map e69 l2)), (1, .var 25 [.d (.nilSl), .d (.nilSl), .d (I 0), .d (I 0), .d (I 0)]), (0, .var 25 (cv25 b))], 5, Fr.emp, [], 0⟩ (by kernel_rfl) ?_
   obtain rfl := Option.some.inj h
   have ew : wr (i + 1) = i + 1 := inext (N := (b.Horses.length : Int)) (by omega) (by omega) (by omega)
   rw [ew]
   exact hK_2 _ (Can.kp (by kernel_rfl))
  ·have h := ifF hb_9 h
   refine AW.skip ?_
   refine hK_6 _ ?_
   refine AW.ra fokW [] ⟨[(1, .d (.sl 1 (List.map e3 l))), (2, .ptr 0 0), (4, .ptr 1 0), (5, .ptr 2 0), (6, .d (I (wr (i + 1))))], [(2, .var 25 [.d (.sl 4 (List.map e58 b.Hanks)), .own 3 (List.map e69 l1).length, .d (I b.Dark), .d (I b.Near), .d (I b.Match)]), (3, .row 69 3 (List.map e69 l1)), (1, .var 25 [.d (.nilSl), .d (.nilSl), .d (I 0), .d (I 0), .d (I 0)]), (0, .var 25 (cv25 b))], 4, Fr.emp, [], 0⟩ (by kernel_rfl) ?_
   obtain rfl := Option.some.inj h
   have ew : wr (i + 1) = i + 1 := inext (N := (b.Horses.length : Int)) (by omega) (by omega) (by omega)
   rw [ew]
   exact hK_2 _ (Can.kp (by kernel_rfl))
 ·subst hout
  refine AW.seqK (fun K_12 hK_12 => ?_)
  refine AW.srwK (fun Q_13 hQ_13 => ?_)
  refine RW.au fokW 3 [] ⟨[(1, .d (.sl 1 (List.map e3 l))), (2, .ptr 0 0), (4, .ptr 1 0), (5, .ptr 2 0), (6, .d (I i)), (9, .d (I i)), (11, .d (.sl 3 (List.map e69 b.Horses)))], [(2, .var 25 [.d (.sl 4 (List.map e58 b.Hanks)), .own 3 (List.map e69 l1).length, .d (I b.Dark), .d (I b.Near), .d (I b.Match)]), (3, .row 69 3 (List.map e69 l1)), (1, .var 25 [.d (.nilSl), .d (.nilSl), .d (I 0), .d (I 0), .d (I 0)]), (0, .var 25 (cv25 b))], 4, Fr.emp, [], 0⟩ (by kernel_rfl) ?_
  refine RW.one fokW (r_lenX trivial rfl lenm (r_end ?_))
  refine RW.au fokW 1 [] ⟨[(1, .d (.sl 1 (List.map e3 l))), (2, .ptr 0 0), (4, .ptr 1 0), (5, .ptr 2 0), (6, .d (I i)), (13, .d (.bool (decide (i < (b.Horses.length : Int)))))], [(2, .var 25 [.d (.sl 4 (List.map e58 b.Hanks)), .own 3 (List.map e69 l1).length, .d (I b.Dark), .d (I b.Near), .d (I b.Match)]), (3, .row 69 3 (List.map e69 l1)), (1, .var 25 [.d (.nilSl), .d (.nilSl), .d (I 0), .d (I 0), .d (I 0)]), (0, .var 25 (cv25 b))], 4, Fr.emp, [], 0⟩ (by kernel_rfl) ?_
  refine RW.nil ?_
  refine hQ_13 _ ?_
  refine AW.cond rfl (fun hb_14 => False.elim (by have := of_decide_eq_true hb_14; omega)) (fun hb_14 => ?_)
  refine AW.exit ?_
  refine hK_1 _ ?_
  refine AW.sa fokW [] ⟨[(4, .ptr 1 0)], [(1, .var 25 [.d (.sl 4 (List.map e58 b.Hanks)), .own 3 (List.map e69 l1).length, .d (I b.Dark), .d (I b.Near), .d (I b.Match)]), (3, .row 69 3 (List.map e69 l1))], 4, Fr.emp, [], 0⟩ (by kernel_rfl) ?_
  obtain rfl := Option.some.inj h
  exact AW.ret (hR_0 _ (retX (.cons (.agg rfl rfl (Nat.le_of_ble_eq_true rfl)) .nil) (Frz.agg_of ⟨.refl _, (.own rfl rfl), .refl _, .refl _, .refl _, trivial⟩) rfl (by kernel_rfl) (by kernel_rfl)))
def g9 (b : HairBook) (n : Int) : Option Bool := (g29 b).bind fun (r0_2, r1_1) => (g35 b).bind fun r0_7 => bif (!r0_7) then ((bif (decide (r1_1 = 60)) then (some (decide ((r0_2.length : Int) = 0))) else (some false)).bind fun v => (bif v then ((g25).bind fun r0_12 => some r0_12) else (some false)).bind fun v1 => some v1) else ((bif (decide (r1_1 ≠ 0)) then (some true) else ((g46 r0_2 (b.Horses.length : Int)).bind fun r0_1 => some (!r0_1))).bind fun v2 => bif v2 then (some false) else ((g47 b r0_2).bind fun r0 => (g26 r0).bind fun (r0_3, r1_3) => bif (decide (r1_3 ≠ 0)) then (some false) else ((must (decide (0 ≤ (b.Horses.length : Int)))).bind fun _ => (g39 n (shl64 1 (b.Horses.length : Int))).bind fun r0_2_1 => (g48 r0_2_1 (b.Horses.length : Int)).bind fun r0_1_1 => (g49 r0_1_1 r0_2).bind fun r0_2_2 => bif (!r0_2_2) then ((g25).bind fun r0_12_1 => some r0_12_1) else ((g47 b r0_1_1).bind fun r0_4 => (g26 r0_4).bind fun (r0_3_1, r1_3_1) => (bif (decide (r1_3_1 = 4)) then ((g25).bind fun r0_12_2 => some r0_12_2) else (some false)).bind fun v3 => some v3))))
theorem k9 (b : HairBook) (n : Int) (r : Bool) (h : g9 b n = some r) : SCall Tryd.prog Gs 9 [.agg (cv25 b), .d (I n)] [] 0 Fr.emp (.d (.bool r)) [] 0 Fr.emp := by
 unfold g9 at h
 refine SCall.mkK Tryd.func9 c9 rfl rfl (by kernel_rfl) (fun Q_0 hR_0 hN_0 => ?_)
 refine AW.sa fokW [] ⟨[(1, .d (I n)), (2, .ptr 0 0)], [(0, .var 25 (cv25 b))], 1, Fr.emp, [], 0⟩ (by kernel_rfl) ?_
 refine AW.srwK (fun Q_1 hQ_1 => ?_)
 refine RW.au fokW 1 [] ⟨[(1, .d (I n)), (2, .ptr 0 0), (13, .agg (cv25 b))], [(0, .var 25 (cv25 b))], 1, Fr.emp, [], 0⟩ (by kernel_rfl) ?_
 obtain ⟨⟨r0_2, r1_1⟩, hx_2, h⟩ := bsome h
 refine RW.one fokW (r_call trivial rfl (k29 b _ hx_2) rfl rfl (r_end ?_))
 refine RW.au fokW 5 [] ⟨[(1, .d (I n)), (2, .ptr 0 0), (5, .d (.sl 1 (List.map e3 r0_2))), (6, .d (I r1_1))], [(0, .var 25 (cv25 b))], 1, Fr.emp, [], 0⟩ (by kernel_rfl) ?_
 refine RW.nil ?_
 refine hQ_1 _ ?_
 refine AW.seqK (fun K_3 hK_3 => ?_)
 refine AW.srwK (fun Q_4 hQ_4 => ?_)
 refine RW.au fokW 1 [] ⟨[(1, .d (I n)), (2, .ptr 0 0), (5, .d (.sl 1 (List.map e3 r0_2))), (6, .d (I r1_1)), (17, .agg (cv25 b))], [(0, .var 25 (cv25 b))], 1, Fr.emp, [], 0⟩ (by kernel_rfl) ?_
 obtain ⟨r0_7, hx_5, h⟩ := bsome h
 refine RW.one fokW (r_call trivial rfl (k35 b _ hx_5) rfl rfl (r_end ?_))
 refine RW.au fokW 1 [] ⟨[(1, .d (I n)), (2, .ptr 0 0), (5, .d (.sl 1 (List.map e3 r0_2))), (6, .d (I r1_1)), (19, .d (.bool (!r0_7)))], [(0, .var 25 (cv25 b))], 1, Fr.emp, [], 0⟩ (by kernel_rfl) ?_
 refine RW.nil ?_
 refine hQ_4 _ ?_
 refine AW.cond rfl (fun hb_6 => ?_) (fun hb_6 => ?_)
 ·have h := ifT hb_6 h
  refine AW.srwK (fun Q_7 hQ_7 => ?_)
  refine RW.au fokW 3 [] ⟨[(5, .d (.sl 1 (List.map e3 r0_2))), (22, .d (.bool (decide (r1_1 = 60))))], [], 1, Fr.emp, [], 0⟩ (by kernel_rfl) ?_
  obtain ⟨v, hx_8, h⟩ := bsome h
  refine RW.cut fokW 4 (⟨[(26, .d (.bool v))], [], 1, Fr.emp, [], 0⟩) ?_ ?_
  ·refine r_split 22 rfl (fun hb_9 => ?_) (fun hb_9 => ?_)
   ·have h := ifT hb_9 hx_8
    refine RunC.auX 1 ⟨[(22, .d (.bool true)), (23, .d (.sl 1 (List.map e3 r0_2)))], [], 1, Fr.emp, [], 0⟩ (by kernel_rfl) ?_
    refine r_lenX rfl rfl lenm ?_
    refine RunC.auX 2 ⟨[(26, .d (.bool (decide ((r0_2.length : Int) = 0))))], [], 1, Fr.emp, [], 0⟩ (by kernel_rfl) ?_
    obtain rfl := Option.some.inj h
    refine RunC.finJ (Can.kp (by kernel_rfl))
   ·have h := ifF hb_9 hx_8
    refine RunC.auX 4 ⟨[(26, .d (.bool false))], [], 1, Fr.emp, [], 0⟩ (by kernel_rfl) ?_
    obtain rfl := Option.some.inj h
    refine RunC.finJ (Can.kp (by kernel_rfl))
  ·refine RW.au fokW 1 [] ⟨[(27, .d (.bool v))], [], 1, Fr.emp, [], 0⟩ (by kernel_rfl) ?_
   obtain ⟨v1, hx_10, h⟩ := bsome h
   refine RW.cut fokW 2 (⟨[(29, .d (.bool v1))], [], 1, Fr.emp, [], 0⟩) ?_ ?_
   ·refine r_split 27 rfl (fun hb_12 => ?_) (fun hb_12 => ?_)
    ·have h := ifT hb_12 hx_10
     obtain ⟨r0_12, hx_11, h⟩ := bsome h
     refine r_call rfl rfl (k25 _ hx_11) rfl rfl ?_
     refine RunC.auX 1 ⟨[(29, .d (.bool r0_12))], [], 1, Fr.emp, [], 0⟩ (by kernel_rfl) ?_
     obtain rfl := Option.some.inj h
     refine RunC.finJ (Can.kp (by kernel_rfl))
    ·have h := ifF hb_12 hx_10
     refine RunC.auX 2 ⟨[(29, .d (.bool false))], [], 1, Fr.emp, [], 0⟩ (by kernel_rfl) ?_
     obtain rfl := Option.some.inj h
     refine RunC.finJ (Can.kp (by kernel_rfl))
   ·refine RW.au fokW 1 [] ⟨[(4, .d (.bool v1))], [], 1, Fr.emp, [], 0⟩ (by kernel_rfl) ?_
    refine RW.nil ?_
    refine hQ_7 _ ?_
    obtain rfl := Option.some.inj h
    exact AW.ret (hR_0 _ (retX (.cons (.tmp rfl) .nil) (.refl _) rfl (by kernel_rfl) (by kernel_rfl)))
 ·have h := ifF hb_6 h
  refine AW.skip ?_
  refine hK_3 _ ?_
  refine AW.seqK (fun K_13 hK_13 => ?_)
  refine AW.srwK (fun Q_14 hQ_14 => ?_)
  refine RW.au fokW 3 [] ⟨[(1, .d (I n)), (2, .ptr 0 0), (5, .d (.sl 1 (List.map e3 r0_2))), (32, .d (.bool (decide (r1_1 ≠ 0))))], [(0, .var 25 (cv25 b))], 1, Fr.emp, [], 0⟩ (by kernel_rfl) ?_
  obtain ⟨v2, hx_15, h⟩ := bsome h
  refine RW.cut fokW 7 (⟨[(1, .d (I n)), (2, .ptr 0 0), (5, .d (.sl 1 (List.map e3 r0_2))), (39, .d (.bool v2))], [(0, .var 25 (cv25 b))], 1, Fr.emp, [], 0⟩) ?_ ?_
  ·refine r_split 32 rfl (fun hb_17 => ?_) (fun hb_17 => ?_)
   ·have h := ifT hb_17 hx_15
    refine RunC.auX 7 ⟨[(1, .d (I n)), (2, .ptr 0 0), (5, .d (.sl 1 (List.map e3 r0_2))), (39, .d (.bool true))], [(0, .var 25 (cv25 b))], 1, Fr.emp, [], 0⟩ (by kernel_rfl) ?_
    obtain rfl := Option.some.inj h
    refine RunC.finJ (Can.kp (by kernel_rfl))
   ·have h := ifF hb_17 hx_15
    refine RunC.auX 3 ⟨[(1, .d (I n)), (2, .ptr 0 0), (5, .d (.sl 1 (List.map e3 r0_2))), (32, .d (.bool false)), (33, .d (.sl 1 (List.map e3 r0_2))), (35, .d (.sl 3 (List.map e69 b.Horses)))], [(0, .var 25 (cv25 b))], 1, Fr.emp, [], 0⟩ (by kernel_rfl) ?_
    refine r_lenX rfl rfl lenm ?_
    obtain ⟨r0_1, hx_16, h⟩ := bsome h
    refine r_call rfl rfl (k46 r0_2 (b.Horses.length : Int) _ hx_16) rfl rfl ?_
    refine RunC.auX 2 ⟨[(1, .d (I n)), (2, .ptr 0 0), (5, .d (.sl 1 (List.map e3 r0_2))), (39, .d (.bool (!r0_1)))], [(0, .var 25 (cv25 b))], 1, Fr.emp, [], 0⟩ (by kernel_rfl) ?_
    obtain rfl := Option.some.inj h
    refine RunC.finJ (Can.kp (by kernel_rfl))
  ·refine RW.nil ?_
   refine hQ_14 _ ?_
   refine AW.cond rfl (fun hb_18 => ?_) (fun hb_18 => ?_)
   ·have h := ifT hb_18 h
    refine AW.sa fokW [] ⟨[(4, .d (.bool false))], [], 1, Fr.emp, [], 0⟩ (by kernel_rfl) ?_
    obtain rfl := Option.some.inj h
    exact AW.ret (hR_0 _ (retX (.cons (.tmp rfl) .nil) (.refl _) rfl (by kernel_rfl) (by kernel_rfl)))
   ·have h := ifF hb_18 h
    refine AW.skip ?_
    refine hK_13 _ ?_
    refine AW.seqK (fun K_19 hK_19 => ?_)
    refine AW.srwK (fun Q_20 hQ_20 => ?_)
    refine RW.au fokW 2 [] ⟨[(1, .d (I n)), (2, .ptr 0 0), (5, .d (.sl 1 (List.map e3 r0_2))), (41, .agg (cv25 b)), (42, .d (.sl 1 (List.map e3 r0_2)))], [(0, .var 25 (cv25 b))], 1, Fr.emp, [], 0⟩ (by kernel_rfl) ?_
    obtain ⟨r0, hx_21, h⟩ := bsome h
    refine RW.one fokW (r_call trivial rfl (k47 b r0_2 _ hx_21) rfl rfl (r_end ?_))
    obtain ⟨⟨r0_3, r1_3⟩, hx_22, h⟩ := bsome h
    refine RW.one fokW (r_call trivial rfl (k26 r0 _ hx_22) rfl rfl (r_end ?_))
    refine RW.au fokW 5 [] ⟨[(1, .d (I n)), (2, .ptr 0 0), (5, .d (.sl 1 (List.map e3 r0_2))), (8, .d (I r1_3))], [(0, .var 25 (cv25 b))], 1, Fr.emp, [], 0⟩ (by kernel_rfl) ?_
    refine RW.nil ?_
    refine hQ_20 _ ?_
    refine AW.sa fokW [] ⟨[(1, .d (I n)), (2, .ptr 0 0), (5, .d (.sl 1 (List.map e3 r0_2))), (48, .d (.bool (decide (r1_3 ≠ 0))))], [(0, .var 25 (cv25 b))], 1, Fr.emp, [], 0⟩ (by kernel_rfl) ?_
    refine AW.cond rfl (fun hb_23 => ?_) (fun hb_23 => ?_)
    ·have h := ifT hb_23 h
     refine AW.sa fokW [] ⟨[(4, .d (.bool false))], [], 1, Fr.emp, [], 0⟩ (by kernel_rfl) ?_
     obtain rfl := Option.some.inj h
     exact AW.ret (hR_0 _ (retX (.cons (.tmp rfl) .nil) (.refl _) rfl (by kernel_rfl) (by kernel_rfl)))
    ·have h := ifF hb_23 h
     refine AW.skip ?_
     refine hK_19 _ ?_
     refine AW.sdrwK fokW (fun Q_24 hQ_24 => ?_)
     refine RunC.auX 3 ⟨[(2, .ptr 0 0), (5, .d (.sl 1 (List.map e3 r0_2))), (49, .d (I n)), (51, .d (.sl 3 (List.map e69 b.Horses)))], [(0, .var 25 (cv25 b))], 1, Fr.emp, [], 0⟩ (by kernel_rfl) ?_
     refine r_lenX trivial rfl lenm ?_
     obtain ⟨_, hv_25, h⟩ := bsome h
     refine r_sh trivial rfl rfl (shl64_ok (of_decide_eq_true (must_ok hv_25))) ?_
     obtain ⟨r0_2_1, hx_26, h⟩ := bsome h
     refine r_call trivial rfl (k39 n (shl64 1 (b.Horses.length : Int)) _ hx_26) rfl rfl ?_
     refine RunC.auX 2 ⟨[(2, .ptr 0 0), (5, .d (.sl 1 (List.map e3 r0_2))), (54, .d (I r0_2_1)), (56, .d (.sl 3 (List.map e69 b.Horses)))], [(0, .var 25 (cv25 b))], 1, Fr.emp, [], 0⟩ (by kernel_rfl) ?_
     refine r_lenX trivial rfl lenm ?_
     obtain ⟨r0_1_1, hx_27, h⟩ := bsome h
     refine r_call trivial rfl (k48 r0_2_1 (b.Horses.length : Int) _ hx_27) rfl rfl ?_
     refine RunC.auX 1 ⟨[(2, .ptr 0 0), (5, .d (.sl 1 (List.map e3 r0_2))), (9, .d (.sl 1 (List.map e3 r0_1_1)))], [(0, .var 25 (cv25 b))], 1, Fr.emp, [], 0⟩ (by kernel_rfl) ?_
     refine RunC.fin ⟨[(2, .ptr 0 0), (5, .d (.sl 1 (List.map e3 r0_2))), (9, .d (.sl 1 (List.map e3 r0_1_1)))], [(0, .var 25 (cv25 b))], 1, Fr.emp, [], 0⟩ (by kernel_rfl) (by kernel_rfl) ?_
     refine hQ_24 _ ?_
     refine AW.seqK (fun K_28 hK_28 => ?_)
     refine AW.srwK (fun Q_29 hQ_29 => ?_)
     refine RW.au fokW 2 [] ⟨[(2, .ptr 0 0), (9, .d (.sl 1 (List.map e3 r0_1_1))), (59, .d (.sl 1 (List.map e3 r0_1_1))), (60, .d (.sl 1 (List.map e3 r0_2)))], [(0, .var 25 (cv25 b))], 1, Fr.emp, [], 0⟩ (by kernel_rfl) ?_
     obtain ⟨r0_2_2, hx_30, h⟩ := bsome h
     refine RW.one fokW (r_call trivial rfl (k49 r0_1_1 r0_2 _ hx_30) rfl rfl (r_end ?_))
     refine RW.au fokW 1 [] ⟨[(2, .ptr 0 0), (9, .d (.sl 1 (List.map e3 r0_1_1))), (62, .d (.bool (!r0_2_2)))], [(0, .var 25 (cv25 b))], 1, Fr.emp, [], 0⟩ (by kernel_rfl) ?_
     refine RW.nil ?_
     refine hQ_29 _ ?_
     refine AW.cond rfl (fun hb_31 => ?_) (fun hb_31 => ?_)
     ·have h := ifT hb_31 h
      refine AW.srwK (fun Q_32 hQ_32 => ?_)
      obtain ⟨r0_12_1, hx_33, h⟩ := bsome h
      refine RW.one fokW (r_call trivial rfl (k25 _ hx_33) rfl rfl (r_end ?_))
      refine RW.au fokW 1 [] ⟨[(4, .d (.bool r0_12_1))], [], 1, Fr.emp, [], 0⟩ (by kernel_rfl) ?_
      refine RW.nil ?_
      refine hQ_32 _ ?_
      obtain rfl := Option.some.inj h
      exact AW.ret (hR_0 _ (retX (.cons (.tmp rfl) .nil) (.refl _) rfl (by kernel_rfl) (by kernel_rfl)))
     ·have h := ifF hb_31 h
      refine AW.skip ?_
      refine hK_28 _ ?_
      refine AW.srwK (fun Q_34 hQ_34 => ?_)
      refine RW.au fokW 2 [] ⟨[(65, .agg (cv25 b)), (66, .d (.sl 1 (List.map e3 r0_1_1)))], [], 1, Fr.emp, [], 0⟩ (by kernel_rfl) ?_
      obtain ⟨r0_4, hx_35, h⟩ := bsome h
      refine RW.one fokW (r_call trivial rfl (k47 b r0_1_1 _ hx_35) rfl rfl (r_end ?_))
      obtain ⟨⟨r0_3_1, r1_3_1⟩, hx_36, h⟩ := bsome h
      refine RW.one fokW (r_call trivial rfl (k26 r0_4 _ hx_36) rfl rfl (r_end ?_))
      refine RW.au fokW 5 [] ⟨[(11, .d (I r1_3_1))], [], 1, Fr.emp, [], 0⟩ (by kernel_rfl) ?_
      refine RW.nil ?_
      refine hQ_34 _ ?_
      refine AW.srwK (fun Q_37 hQ_37 => ?_)
      refine RW.au fokW 3 [] ⟨[(73, .d (.bool (decide (r1_3_1 = 4))))], [], 1, Fr.emp, [], 0⟩ (by kernel_rfl) ?_
      obtain ⟨v3, hx_38, h⟩ := bsome h
      refine RW.cut fokW 2 (⟨[(75, .d (.bool v3))], [], 1, Fr.emp, [], 0⟩) ?_ ?_
      ·refine r_split 73 rfl (fun hb_40 => ?_) (fun hb_40 => ?_)
       ·have h := ifT hb_40 hx_38
        obtain ⟨r0_12_2, hx_39, h⟩ := bsome h
        refine r_call rfl rfl (k25 _ hx_39) rfl rfl ?_
        refine RunC.auX 1 ⟨[(75, .d (.bool r0_12_2))], [], 1, Fr.emp, [], 0⟩ (by kernel_rfl) ?_
        obtain rfl := Option.some.inj h
        refine RunC.finJ (Can.kp (by kernel_rfl))
       ·have h := ifF hb_40 hx_38
        refine RunC.auX 2 ⟨[(75, .d (.bool false))], [], 1, Fr.emp, [], 0⟩ (by kernel_rfl) ?_
        obtain rfl := Option.some.inj h
        refine RunC.finJ (Can.kp (by kernel_rfl))
      ·refine RW.au fokW 1 [] ⟨[(4, .d (.bool v3))], [], 1, Fr.emp, [], 0⟩ (by kernel_rfl) ?_
       refine RW.nil ?_
       refine hQ_37 _ ?_
       obtain rfl := Option.some.inj h
       exact AW.ret (hR_0 _ (retX (.cons (.tmp rfl) .nil) (.refl _) rfl (by kernel_rfl) (by kernel_rfl)))
end Go.Proofs.Th
