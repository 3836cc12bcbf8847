/- Told functions, and that the program does so, part 3. Conditions: none. -/
import Derived.Test.YtonjadhpjkbhnaaDoorTdb
set_option linter.unusedVariables false
set_option linter.unusedSimpArgs false
namespace Go.Proofs.Th
open Go Go.Abs Go.Proofs
def g35_18 (b : HairBook) : (Bool × Int) → Option (Ctl (Bool × Int) (Bool)) := fun  (ok2, i) => (bif ok2 then (some (decide (i < (b.Hanks.length : Int)))) else (some false)).bind fun v5 => bif v5 then ((ixL b.Hanks i).bind fun p => (g64 p.Weight 1 60).bind fun r0_3 => (bif r0_3 then ((g64 p.Shade 0 20).bind fun r0_4 => some r0_4) else (some false)).bind fun v6 => some (.next (v6, (wr (i + 1))))) else (some (.brk ok2))
def g35_33 (b : HairBook) : (Bool × Int) → Option (Ctl (Bool × Int) (Bool)) := fun  (ok5, i1) => (bif ok5 then (some (decide (i1 < (b.Horses.length : Int)))) else (some false)).bind fun v7 => bif v7 then ((ixL b.Horses i1).bind fun p1 => (g50 p1.Mane 1 30).bind fun r0_5 => (bif r0_5 then ((g50 p1.Tail 1 30).bind fun r0_6 => some r0_6) else (some false)).bind fun v8 => some (.next (v8, (wr (i1 + 1))))) else (some (.brk ok5))
def g35 (b : HairBook) : Option Bool := (g17 b).bind fun r0_9 => (bif (decide (r0_9 = 0)) then (some (decide ((b.Hanks.length : Int) ≤ 4))) else (some false)).bind fun v => (bif v then (some (decide ((b.Horses.length : Int) ≤ 3))) else (some false)).bind fun v1 => (bif v1 then ((g50 b.Dark 0 4).bind fun r0 => some r0) else (some false)).bind fun v2 => (bif v2 then ((g50 b.Near 0 3).bind fun r0_1 => some r0_1) else (some false)).bind fun v3 => (bif v3 then ((g50 b.Match 0 3).bind fun r0_2 => some r0_2) else (some false)).bind fun v4 => ((whileC (g35_18 b) 1000 (v4, 0)).bind fun ok1 => some ok1).bind fun ok => ((whileC (g35_33 b) 1000 (ok, 0)).bind fun ok4 => some ok4).bind fun ok3 => some ok3
theorem k35 (b : HairBook) (r : Bool) (h : g35 b = some r) : SCall Tryd.prog Gs 35 [.agg (cv25 b)] [] 0 Fr.emp (.d (.bool r)) [] 0 Fr.emp := by
 unfold g35 at h
 refine SCall.mkK Tryd.func35 c35 rfl rfl (by kernel_rfl) (fun Q_0 hR_0 hN_0 => ?_)
 refine AW.sa fokW [] ⟨[(1, .ptr 0 0)], [(0, .var 25 (cv25 b))], 1, Fr.emp, [], 0⟩ (by kernel_rfl) ?_
 refine AW.srwK (fun Q_1 hQ_1 => ?_)
 refine RW.au fokW 1 [] ⟨[(1, .ptr 0 0), (7, .agg (cv25 b))], [(0, .var 25 (cv25 b))], 1, Fr.emp, [], 0⟩ (by kernel_rfl) ?_
 obtain ⟨r0_9, hx_2, h⟩ := bsome h
 refine RW.one fokW (r_call trivial rfl (k17 b _ hx_2) rfl rfl (r_end ?_))
 refine RW.au fokW 2 [] ⟨[(1, .ptr 0 0), (10, .d (.bool (decide (r0_9 = 0))))], [(0, .var 25 (cv25 b))], 1, Fr.emp, [], 0⟩ (by kernel_rfl) ?_
 obtain ⟨v, hx_3, h⟩ := bsome h
 refine RW.cut fokW 5 (⟨[(1, .ptr 0 0), (15, .d (.bool v))], [(0, .var 25 (cv25 b))], 1, Fr.emp, [], 0⟩) ?_ ?_
 ·refine r_split 10 rfl (fun hb_4 => ?_) (fun hb_4 => ?_)
  ·have h := ifT hb_4 hx_3
   refine RunC.auX 2 ⟨[(1, .ptr 0 0), (10, .d (.bool true)), (12, .d (.sl 4 (List.map e58 b.Hanks)))], [(0, .var 25 (cv25 b))], 1, Fr.emp, [], 0⟩ (by kernel_rfl) ?_
   refine r_lenX rfl rfl lenm ?_
   refine RunC.auX 2 ⟨[(1, .ptr 0 0), (15, .d (.bool (decide ((b.Hanks.length : Int) ≤ 4))))], [(0, .var 25 (cv25 b))], 1, Fr.emp, [], 0⟩ (by kernel_rfl) ?_
   obtain rfl := Option.some.inj h
   refine RunC.finJ (Can.kp (by kernel_rfl))
  ·have h := ifF hb_4 hx_3
   refine RunC.auX 5 ⟨[(1, .ptr 0 0), (15, .d (.bool false))], [(0, .var 25 (cv25 b))], 1, Fr.emp, [], 0⟩ (by kernel_rfl) ?_
   obtain rfl := Option.some.inj h
   refine RunC.finJ (Can.kp (by kernel_rfl))
 ·refine RW.au fokW 1 [] ⟨[(1, .ptr 0 0), (16, .d (.bool v))], [(0, .var 25 (cv25 b))], 1, Fr.emp, [], 0⟩ (by kernel_rfl) ?_
  obtain ⟨v1, hx_5, h⟩ := bsome h
  refine RW.cut fokW 5 (⟨[(1, .ptr 0 0), (21, .d (.bool v1))], [(0, .var 25 (cv25 b))], 1, Fr.emp, [], 0⟩) ?_ ?_
  ·refine r_split 16 rfl (fun hb_6 => ?_) (fun hb_6 => ?_)
   ·have h := ifT hb_6 hx_5
    refine RunC.auX 2 ⟨[(1, .ptr 0 0), (16, .d (.bool true)), (18, .d (.sl 3 (List.map e69 b.Horses)))], [(0, .var 25 (cv25 b))], 1, Fr.emp, [], 0⟩ (by kernel_rfl) ?_
    refine r_lenX rfl rfl lenm ?_
    refine RunC.auX 2 ⟨[(1, .ptr 0 0), (21, .d (.bool (decide ((b.Horses.length : Int) ≤ 3))))], [(0, .var 25 (cv25 b))], 1, Fr.emp, [], 0⟩ (by kernel_rfl) ?_
    obtain rfl := Option.some.inj h
    refine RunC.finJ (Can.kp (by kernel_rfl))
   ·have h := ifF hb_6 hx_5
    refine RunC.auX 5 ⟨[(1, .ptr 0 0), (21, .d (.bool false))], [(0, .var 25 (cv25 b))], 1, Fr.emp, [], 0⟩ (by kernel_rfl) ?_
    obtain rfl := Option.some.inj h
    refine RunC.finJ (Can.kp (by kernel_rfl))
  ·refine RW.au fokW 1 [] ⟨[(1, .ptr 0 0), (22, .d (.bool v1))], [(0, .var 25 (cv25 b))], 1, Fr.emp, [], 0⟩ (by kernel_rfl) ?_
   obtain ⟨v2, hx_7, h⟩ := bsome h
   refine RW.cut fokW 4 (⟨[(1, .ptr 0 0), (26, .d (.bool v2))], [(0, .var 25 (cv25 b))], 1, Fr.emp, [], 0⟩) ?_ ?_
   ·refine r_split 22 rfl (fun hb_9 => ?_) (fun hb_9 => ?_)
    ·have h := ifT hb_9 hx_7
     refine RunC.auX 2 ⟨[(1, .ptr 0 0), (22, .d (.bool true)), (24, .d (I b.Dark))], [(0, .var 25 (cv25 b))], 1, Fr.emp, [], 0⟩ (by kernel_rfl) ?_
     obtain ⟨r0, hx_8, h⟩ := bsome h
     refine r_call rfl rfl (k50 b.Dark 0 4 _ hx_8) rfl rfl ?_
     refine RunC.auX 1 ⟨[(1, .ptr 0 0), (26, .d (.bool r0))], [(0, .var 25 (cv25 b))], 1, Fr.emp, [], 0⟩ (by kernel_rfl) ?_
     obtain rfl := Option.some.inj h
     refine RunC.finJ (Can.kp (by kernel_rfl))
    ·have h := ifF hb_9 hx_7
     refine RunC.auX 4 ⟨[(1, .ptr 0 0), (26, .d (.bool false))], [(0, .var 25 (cv25 b))], 1, Fr.emp, [], 0⟩ (by kernel_rfl) ?_
     obtain rfl := Option.some.inj h
     refine RunC.finJ (Can.kp (by kernel_rfl))
   ·refine RW.au fokW 1 [] ⟨[(1, .ptr 0 0), (27, .d (.bool v2))], [(0, .var 25 (cv25 b))], 1, Fr.emp, [], 0⟩ (by kernel_rfl) ?_
    obtain ⟨v3, hx_10, h⟩ := bsome h
    refine RW.cut fokW 4 (⟨[(1, .ptr 0 0), (31, .d (.bool v3))], [(0, .var 25 (cv25 b))], 1, Fr.emp, [], 0⟩) ?_ ?_
    ·refine r_split 27 rfl (fun hb_12 => ?_) (fun hb_12 => ?_)
     ·have h := ifT hb_12 hx_10
      refine RunC.auX 2 ⟨[(1, .ptr 0 0), (27, .d (.bool true)), (29, .d (I b.Near))], [(0, .var 25 (cv25 b))], 1, Fr.emp, [], 0⟩ (by kernel_rfl) ?_
      obtain ⟨r0_1, hx_11, h⟩ := bsome h
      refine r_call rfl rfl (k50 b.Near 0 3 _ hx_11) rfl rfl ?_
      refine RunC.auX 1 ⟨[(1, .ptr 0 0), (31, .d (.bool r0_1))], [(0, .var 25 (cv25 b))], 1, Fr.emp, [], 0⟩ (by kernel_rfl) ?_
      obtain rfl := Option.some.inj h
      refine RunC.finJ (Can.kp (by kernel_rfl))
     ·have h := ifF hb_12 hx_10
      refine RunC.auX 4 ⟨[(1, .ptr 0 0), (31, .d (.bool false))], [(0, .var 25 (cv25 b))], 1, Fr.emp, [], 0⟩ (by kernel_rfl) ?_
      obtain rfl := Option.some.inj h
      refine RunC.finJ (Can.kp (by kernel_rfl))
    ·refine RW.au fokW 1 [] ⟨[(1, .ptr 0 0), (32, .d (.bool v3))], [(0, .var 25 (cv25 b))], 1, Fr.emp, [], 0⟩ (by kernel_rfl) ?_
     obtain ⟨v4, hx_13, h⟩ := bsome h
     refine RW.cut fokW 4 (⟨[(1, .ptr 0 0), (36, .d (.bool v4))], [(0, .var 25 (cv25 b))], 1, Fr.emp, [], 0⟩) ?_ ?_
     ·refine r_split 32 rfl (fun hb_15 => ?_) (fun hb_15 => ?_)
      ·have h := ifT hb_15 hx_13
       refine RunC.auX 2 ⟨[(1, .ptr 0 0), (32, .d (.bool true)), (34, .d (I b.Match))], [(0, .var 25 (cv25 b))], 1, Fr.emp, [], 0⟩ (by kernel_rfl) ?_
       obtain ⟨r0_2, hx_14, h⟩ := bsome h
       refine r_call rfl rfl (k50 b.Match 0 3 _ hx_14) rfl rfl ?_
       refine RunC.auX 1 ⟨[(1, .ptr 0 0), (36, .d (.bool r0_2))], [(0, .var 25 (cv25 b))], 1, Fr.emp, [], 0⟩ (by kernel_rfl) ?_
       obtain rfl := Option.some.inj h
       refine RunC.finJ (Can.kp (by kernel_rfl))
      ·have h := ifF hb_15 hx_13
       refine RunC.auX 4 ⟨[(1, .ptr 0 0), (36, .d (.bool false))], [(0, .var 25 (cv25 b))], 1, Fr.emp, [], 0⟩ (by kernel_rfl) ?_
       obtain rfl := Option.some.inj h
       refine RunC.finJ (Can.kp (by kernel_rfl))
     ·refine RW.au fokW 1 [] ⟨[(1, .ptr 0 0), (3, .d (.bool v4))], [(0, .var 25 (cv25 b))], 1, Fr.emp, [], 0⟩ (by kernel_rfl) ?_
      refine RW.nil ?_
      refine hQ_1 _ ?_
      obtain ⟨ok, hx_16, h⟩ := bsome h
      refine AW.jnSK (fun (ok : Bool) => ⟨[(1, .ptr 0 0), (3, .d (.bool ok))], [(0, .var 25 (cv25 b))], 1, Fr.emp, [], 0⟩) (c := ok) (fun K_16 hK_16 => ?_) ?_
      ·have h := hx_16
       refine AW.sa fokW [] ⟨[(1, .ptr 0 0), (3, .d (.bool v4)), (4, .d (I 0))], [(0, .var 25 (cv25 b))], 1, Fr.emp, [], 0⟩ (by kernel_rfl) ?_
       obtain ⟨ok1, hx_17, h⟩ := bsome h
       refine AW.jqSK (fun (ok1 : Bool) => ⟨[(1, .ptr 0 0), (3, .d (.bool ok1))], [(0, .var 25 (cv25 b))], 1, Fr.emp, [], 0⟩) (c := ok1) (fun K_17 hK_17 => ?_) ?_
       ·have h := hx_17
        refine AW.block ?_
        refine AW.whK (fun (⟨ok2, i⟩ : Bool × Int) => ⟨[(1, .ptr 0 0), (3, .d (.bool ok2)), (4, .d (I i))], [(0, .var 25 (cv25 b))], 1, Fr.emp, [], 0⟩) (g35_18 b) h (Can.kp (by kernel_rfl)) (fun s_18 c_18 h hb_18 K_18 hK_18 => ?_)
        obtain ⟨ok2, i⟩ := s_18
        unfold g35_18 at h
        refine AW.seqK (fun K_19 hK_19 => ?_)
        refine AW.srwK (fun Q_20 hQ_20 => ?_)
        refine RW.au fokW 2 [] ⟨[(1, .ptr 0 0), (3, .d (.bool ok2)), (4, .d (I i)), (38, .d (.bool ok2))], [(0, .var 25 (cv25 b))], 1, Fr.emp, [], 0⟩ (by kernel_rfl) ?_
        obtain ⟨v5, hx_21, h⟩ := bsome h
        refine RW.cut fokW 6 (⟨[(1, .ptr 0 0), (3, .d (.bool ok2)), (4, .d (I i)), (44, .d (.bool v5))], [(0, .var 25 (cv25 b))], 1, Fr.emp, [], 0⟩) ?_ ?_
        ·refine r_split 38 rfl (fun hb_22 => ?_) (fun hb_22 => ?_)
         ·have h := ifT hb_22 hx_21
          refine RunC.auX 3 ⟨[(1, .ptr 0 0), (3, .d (.bool ok2)), (4, .d (I i)), (38, .d (.bool true)), (39, .d (I i)), (41, .d (.sl 4 (List.map e58 b.Hanks)))], [(0, .var 25 (cv25 b))], 1, Fr.emp, [], 0⟩ (by kernel_rfl) ?_
          refine r_lenX rfl rfl lenm ?_
          refine RunC.auX 2 ⟨[(1, .ptr 0 0), (3, .d (.bool ok2)), (4, .d (I i)), (44, .d (.bool (decide (i < (b.Hanks.length : Int)))))], [(0, .var 25 (cv25 b))], 1, Fr.emp, [], 0⟩ (by kernel_rfl) ?_
          obtain rfl := Option.some.inj h
          refine RunC.finJ (Can.kp (by kernel_rfl))
         ·have h := ifF hb_22 hx_21
          refine RunC.auX 6 ⟨[(1, .ptr 0 0), (3, .d (.bool ok2)), (4, .d (I i)), (44, .d (.bool false))], [(0, .var 25 (cv25 b))], 1, Fr.emp, [], 0⟩ (by kernel_rfl) ?_
          obtain rfl := Option.some.inj h
          refine RunC.finJ (Can.kp (by kernel_rfl))
        ·refine RW.nil ?_
         refine hQ_20 _ ?_
         refine AW.cond rfl (fun hb_23 => ?_) (fun hb_23 => ?_)
         ·have h := ifT hb_23 h
          refine AW.skip ?_
          refine hK_19 _ ?_
          refine AW.seqK (fun K_24 hK_24 => ?_)
          refine AW.block ?_
          refine AW.rw ?_
          refine RW.au fokW 3 [] ⟨[(1, .ptr 0 0), (4, .d (I i)), (48, .d (.sl 4 (List.map e58 b.Hanks))), (49, .d (I i))], [(0, .var 25 (cv25 b))], 1, Fr.emp, [], 0⟩ (by kernel_rfl) ?_
          obtain ⟨p, hv_26, h⟩ := bsome h
          refine RW.one fokW (r_iaD trivial rfl rfl (ixL_ok hv_26).1 (row := e58 p) (mapget (ixL_ok hv_26).2) (r_end ?_))
          refine RW.au fokW 2 [] ⟨[(1, .ptr 0 0), (4, .d (I i)), (52, .agg [.d (I p.Weight.Low), .d (I p.Weight.High)])], [(0, .var 25 (cv25 b))], 1, Fr.emp, [], 0⟩ (by kernel_rfl) ?_
          obtain ⟨r0_3, hx_27, h⟩ := bsome h
          refine RW.one fokW (r_call trivial rfl (k64 p.Weight 1 60 _ hx_27) rfl rfl (r_end ?_))
          refine RW.au fokW 1 [] ⟨[(1, .ptr 0 0), (4, .d (I i)), (54, .d (.bool r0_3))], [(0, .var 25 (cv25 b))], 1, Fr.emp, [], 0⟩ (by kernel_rfl) ?_
          obtain ⟨v6, hx_28, h⟩ := bsome h
          refine RW.cut fokW 8 (⟨[(1, .ptr 0 0), (4, .d (I i)), (62, .d (.bool v6))], [(0, .var 25 (cv25 b))], 1, Fr.emp, [], 0⟩) ?_ ?_
          ·refine r_split 54 rfl (fun hb_30 => ?_) (fun hb_30 => ?_)
           ·have h := ifT hb_30 hx_28
            refine RunC.auX 3 ⟨[(1, .ptr 0 0), (4, .d (I i)), (54, .d (.bool true)), (56, .d (.sl 4 (List.map e58 b.Hanks))), (57, .d (I i))], [(0, .var 25 (cv25 b))], 1, Fr.emp, [], 0⟩ (by kernel_rfl) ?_
            refine r_iaD rfl rfl rfl (ixL_ok hv_26).1 (row := e58 p) (mapget (ixL_ok hv_26).2) ?_
            refine RunC.auX 2 ⟨[(1, .ptr 0 0), (4, .d (I i)), (54, .d (.bool true)), (60, .agg [.d (I p.Shade.Low), .d (I p.Shade.High)])], [(0, .var 25 (cv25 b))], 1, Fr.emp, [], 0⟩ (by kernel_rfl) ?_
            obtain ⟨r0_4, hx_29, h⟩ := bsome h
            refine r_call rfl rfl (k64 p.Shade 0 20 _ hx_29) rfl rfl ?_
            refine RunC.auX 1 ⟨[(1, .ptr 0 0), (4, .d (I i)), (62, .d (.bool r0_4))], [(0, .var 25 (cv25 b))], 1, Fr.emp, [], 0⟩ (by kernel_rfl) ?_
            obtain rfl := Option.some.inj h
            refine RunC.finJ (Can.kp (by kernel_rfl))
           ·have h := ifF hb_30 hx_28
            refine RunC.auX 8 ⟨[(1, .ptr 0 0), (4, .d (I i)), (62, .d (.bool false))], [(0, .var 25 (cv25 b))], 1, Fr.emp, [], 0⟩ (by kernel_rfl) ?_
            obtain rfl := Option.some.inj h
            refine RunC.finJ (Can.kp (by kernel_rfl))
          ·refine RW.au fokW 1 [] ⟨[(1, .ptr 0 0), (3, .d (.bool v6)), (4, .d (I i))], [(0, .var 25 (cv25 b))], 1, Fr.emp, [], 0⟩ (by kernel_rfl) ?_
           refine RW.nil ?_
           refine hK_24 _ ?_
           refine AW.ra fokW [] ⟨[(1, .ptr 0 0), (3, .d (.bool v6)), (4, .d (I (wr (i + 1))))], [(0, .var 25 (cv25 b))], 1, Fr.emp, [], 0⟩ (by kernel_rfl) ?_
           obtain rfl := Option.some.inj h
           exact hK_18 _ _ rfl (Can.kp (by kernel_rfl))
         ·have h := ifF hb_23 h
          refine AW.exit ?_
          obtain rfl := Option.some.inj h
          obtain rfl := hb_18 _ rfl
          exact hK_17 _ (Can.kp (by kernel_rfl))
       ·obtain rfl := Option.some.inj h
        exact hK_16 _ (Can.kp (by kernel_rfl))
      ·obtain ⟨ok3, hx_31, h⟩ := bsome h
       refine AW.jnSK (fun (ok3 : Bool) => ⟨[(3, .d (.bool ok3))], [], 1, Fr.emp, [], 0⟩) (c := ok3) (fun K_31 hK_31 => ?_) ?_
       ·have h := hx_31
        refine AW.sa fokW [] ⟨[(1, .ptr 0 0), (3, .d (.bool ok)), (5, .d (I 0))], [(0, .var 25 (cv25 b))], 1, Fr.emp, [], 0⟩ (by kernel_rfl) ?_
        obtain ⟨ok4, hx_32, h⟩ := bsome h
        refine AW.jqSK (fun (ok4 : Bool) => ⟨[(3, .d (.bool ok4))], [], 1, Fr.emp, [], 0⟩) (c := ok4) (fun K_32 hK_32 => ?_) ?_
        ·have h := hx_32
         refine AW.block ?_
         refine AW.whK (fun (⟨ok5, i1⟩ : Bool × Int) => ⟨[(1, .ptr 0 0), (3, .d (.bool ok5)), (5, .d (I i1))], [(0, .var 25 (cv25 b))], 1, Fr.emp, [], 0⟩) (g35_33 b) h (Can.kp (by kernel_rfl)) (fun s_33 c_33 h hb_33 K_33 hK_33 => ?_)
         obtain ⟨ok5, i1⟩ := s_33
         unfold g35_33 at h
         refine AW.seqK (fun K_34 hK_34 => ?_)
         refine AW.srwK (fun Q_35 hQ_35 => ?_)
         refine RW.au fokW 2 [] ⟨[(1, .ptr 0 0), (3, .d (.bool ok5)), (5, .d (I i1)), (64, .d (.bool ok5))], [(0, .var 25 (cv25 b))], 1, Fr.emp, [], 0⟩ (by kernel_rfl) ?_
         obtain ⟨v7, hx_36, h⟩ := bsome h
         refine RW.cut fokW 6 (⟨[(1, .ptr 0 0), (3, .d (.bool ok5)), (5, .d (I i1)), (70, .d (.bool v7))], [(0, .var 25 (cv25 b))], 1, Fr.emp, [], 0⟩) ?_ ?_
         ·refine r_split 64 rfl (fun hb_37 => ?_) (fun hb_37 => ?_)
          ·have h := ifT hb_37 hx_36
           refine RunC.auX 3 ⟨[(1, .ptr 0 0), (3, .d (.bool ok5)), (5, .d (I i1)), (64, .d (.bool true)), (65, .d (I i1)), (67, .d (.sl 3 (List.map e69 b.Horses)))], [(0, .var 25 (cv25 b))], 1, Fr.emp, [], 0⟩ (by kernel_rfl) ?_
           refine r_lenX rfl rfl lenm ?_
           refine RunC.auX 2 ⟨[(1, .ptr 0 0), (3, .d (.bool ok5)), (5, .d (I i1)), (70, .d (.bool (decide (i1 < (b.Horses.length : Int)))))], [(0, .var 25 (cv25 b))], 1, Fr.emp, [], 0⟩ (by kernel_rfl) ?_
           obtain rfl := Option.some.inj h
           refine RunC.finJ (Can.kp (by kernel_rfl))
          ·have h := ifF hb_37 hx_36
           refine RunC.auX 6 ⟨[(1, .ptr 0 0), (3, .d (.bool ok5)), (5, .d (I i1)), (70, .d (.bool false))], [(0, .var 25 (cv25 b))], 1, Fr.emp, [], 0⟩ (by kernel_rfl) ?_
           obtain rfl := Option.some.inj h
           refine RunC.finJ (Can.kp (by kernel_rfl))
         ·refine RW.nil ?_
          refine hQ_35 _ ?_
          refine AW.cond rfl (fun hb_38 => ?_) (fun hb_38 => ?_)
          ·have h := ifT hb_38 h
           refine AW.skip ?_
           refine hK_34 _ ?_
           refine AW.seqK (fun K_39 hK_39 => ?_)
           refine AW.block ?_
           refine AW.srwK (fun Q_40 hQ_40 => ?_)
           refine RW.au fokW 3 [] ⟨[(1, .ptr 0 0), (5, .d (I i1)), (74, .d (.sl 3 (List.map e69 b.Horses))), (75, .d (I i1))], [(0, .var 25 (cv25 b))], 1, Fr.emp, [], 0⟩ (by kernel_rfl) ?_
           obtain ⟨p1, hv_41, h⟩ := bsome h
           refine RW.one fokW (r_iaD trivial rfl rfl (ixL_ok hv_41).1 (row := e69 p1) (mapget (ixL_ok hv_41).2) (r_end ?_))
           refine RW.au fokW 3 [] ⟨[(1, .ptr 0 0), (5, .d (I i1)), (6, .ptr 1 0)], [(1, .var 69 [.d (I p1.Mane), .d (I p1.Tail), .d (I p1.Shade)]), (0, .var 25 (cv25 b))], 2, Fr.emp, [], 0⟩ (by kernel_rfl) ?_
           refine RW.nil ?_
           refine hQ_40 _ ?_
           refine AW.rw ?_
           refine RW.au fokW 2 [] ⟨[(1, .ptr 0 0), (5, .d (I i1)), (6, .ptr 1 0), (79, .d (I p1.Mane))], [(1, .var 69 [.d (I p1.Mane), .d (I p1.Tail), .d (I p1.Shade)]), (0, .var 25 (cv25 b))], 2, Fr.emp, [], 0⟩ (by kernel_rfl) ?_
           obtain ⟨r0_5, hx_43, h⟩ := bsome h
           refine RW.one fokW (r_call trivial rfl (k50 p1.Mane 1 30 _ hx_43) rfl rfl (r_end ?_))
           refine RW.au fokW 1 [] ⟨[(1, .ptr 0 0), (5, .d (I i1)), (6, .ptr 1 0), (81, .d (.bool r0_5))], [(1, .var 69 [.d (I p1.Mane), .d (I p1.Tail), .d (I p1.Shade)]), (0, .var 25 (cv25 b))], 2, Fr.emp, [], 0⟩ (by kernel_rfl) ?_
           obtain ⟨v8, hx_44, h⟩ := bsome h
           refine RW.cut fokW 4 (⟨[(1, .ptr 0 0), (5, .d (I i1)), (85, .d (.bool v8))], [(0, .var 25 (cv25 b))], 2, Fr.emp, [], 0⟩) ?_ ?_
           ·refine r_split 81 rfl (fun hb_46 => ?_) (fun hb_46 => ?_)
            ·have h := ifT hb_46 hx_44
             refine RunC.auX 2 ⟨[(1, .ptr 0 0), (5, .d (I i1)), (81, .d (.bool true)), (83, .d (I p1.Tail))], [(1, .var 69 [.d (I p1.Mane), .d (I p1.Tail), .d (I p1.Shade)]), (0, .var 25 (cv25 b))], 2, Fr.emp, [], 0⟩ (by kernel_rfl) ?_
             obtain ⟨r0_6, hx_45, h⟩ := bsome h
             refine r_call rfl rfl (k50 p1.Tail 1 30 _ hx_45) rfl rfl ?_
             refine RunC.auX 1 ⟨[(1, .ptr 0 0), (5, .d (I i1)), (85, .d (.bool r0_6))], [(1, .var 69 [.d (I p1.Mane), .d (I p1.Tail), .d (I p1.Shade)]), (0, .var 25 (cv25 b))], 2, Fr.emp, [], 0⟩ (by kernel_rfl) ?_
             obtain rfl := Option.some.inj h
             refine RunC.finJ (Can.kp (by kernel_rfl))
            ·have h := ifF hb_46 hx_44
             refine RunC.auX 4 ⟨[(1, .ptr 0 0), (5, .d (I i1)), (85, .d (.bool false))], [(1, .var 69 [.d (I p1.Mane), .d (I p1.Tail), .d (I p1.Shade)]), (0, .var 25 (cv25 b))], 2, Fr.emp, [], 0⟩ (by kernel_rfl) ?_
             obtain rfl := Option.some.inj h
             refine RunC.finJ (Can.kp (by kernel_rfl))
           ·refine RW.au fokW 1 [] ⟨[(1, .ptr 0 0), (3, .d (.bool v8)), (5, .d (I i1))], [(0, .var 25 (cv25 b))], 2, Fr.emp, [], 0⟩ (by kernel_rfl) ?_
            refine RW.nil ?_
            refine hK_39 _ ?_
            refine AW.ra fokW [] ⟨[(1, .ptr 0 0), (3, .d (.bool v8)), (5, .d (I (wr (i1 + 1))))], [(0, .var 25 (cv25 b))], 2, Fr.emp, [], 0⟩ (by kernel_rfl) ?_
            obtain rfl := Option.some.inj h
            exact hK_33 _ _ rfl (Can.kp (by kernel_rfl))
          ·have h := ifF hb_38 h
           refine AW.exit ?_
           obtain rfl := Option.some.inj h
           obtain rfl := hb_33 _ rfl
           exact hK_32 _ (Can.kp (by kernel_rfl))
        ·obtain rfl := Option.some.inj h
         exact hK_31 _ (Can.kp (by kernel_rfl))
       ·refine AW.sa fokW [] ⟨[(2, .d (.bool ok3))], [], 1, Fr.emp, [], 0⟩ (by kernel_rfl) ?_
        obtain rfl := Option.some.inj h
        exact AW.ret (hR_0 _ (retX (.cons (.tmp rfl) .nil) (.refl _) rfl (by kernel_rfl) (by kernel_rfl)))
def g39 (n : Int) (many : Int) : Option Int := bif (decide (many < 1)) then (some 0) else ((must (decide (many ≠ 0))).bind fun _ => bif (decide ((n.tmod many) < 0)) then (some (wr ((n.tmod many) + many))) else (some (n.tmod many)))
theorem k39 (n : Int) (many : Int) (r : Int) (h : g39 n many = some r) : SCall Tryd.prog Gs 39 [.d (I n), .d (I many)] [] 0 Fr.emp (.d (I r)) [] 0 Fr.emp := by
 unfold g39 at h
 refine SCall.mkK Tryd.func39 c39 rfl rfl (by kernel_rfl) (fun Q_0 hR_0 hN_0 => ?_)
 refine AW.sa fokW [] ⟨[(0, .d (I n)), (1, .d (I many))], [], 0, Fr.emp, [], 0⟩ (by kernel_rfl) ?_
 refine AW.seqK (fun K_1 hK_1 => ?_)
 refine AW.sa fokW [] ⟨[(0, .d (I n)), (1, .d (I many)), (7, .d (.bool (decide (many < 1))))], [], 0, Fr.emp, [], 0⟩ (by kernel_rfl) ?_
 refine AW.cond rfl (fun hb_2 => ?_) (fun hb_2 => ?_)
 ·have h := ifT hb_2 h
  refine AW.sa fokW [] ⟨[(4, .d (I 0))], [], 0, Fr.emp, [], 0⟩ (by kernel_rfl) ?_
  obtain rfl := Option.some.inj h
  exact AW.ret (hR_0 _ (retX (.cons (.tmp rfl) .nil) (.refl _) rfl (by kernel_rfl) (by kernel_rfl)))
 ·have h := ifF hb_2 h
  refine AW.skip ?_
  refine hK_1 _ ?_
  refine AW.srwK (fun Q_3 hQ_3 => ?_)
  refine RW.au fokW 2 [] ⟨[(1, .d (I many)), (8, .d (I n)), (9, .d (I many))], [], 0, Fr.emp, [], 0⟩ (by kernel_rfl) ?_
  obtain ⟨_, hv_4, h⟩ := bsome h
  refine RW.one fokW (r_rem trivial rfl rfl (of_decide_eq_true (must_ok hv_4)) (r_end ?_))
  refine RW.au fokW 1 [] ⟨[(1, .d (I many)), (5, .d (I (n.tmod many)))], [], 0, Fr.emp, [], 0⟩ (by kernel_rfl) ?_
  refine RW.nil ?_
  refine hQ_3 _ ?_
  refine AW.seqK (fun K_5 hK_5 => ?_)
  refine AW.sa fokW [] ⟨[(1, .d (I many)), (5, .d (I (n.tmod many))), (12, .d (.bool (decide ((n.tmod many) < 0))))], [], 0, Fr.emp, [], 0⟩ (by kernel_rfl) ?_
  refine AW.cond rfl (fun hb_6 => ?_) (fun hb_6 => ?_)
  ·have h := ifT hb_6 h
   refine AW.ra fokW [] ⟨[(5, .d (I (wr ((n.tmod many) + many))))], [], 0, Fr.emp, [], 0⟩ (by kernel_rfl) ?_
   refine hK_5 _ ?_
   refine AW.sa fokW [] ⟨[(4, .d (I (wr ((n.tmod many) + many))))], [], 0, Fr.emp, [], 0⟩ (by kernel_rfl) ?_
   obtain rfl := Option.some.inj h
   exact AW.ret (hR_0 _ (retX (.cons (.tmp rfl) .nil) (.refl _) rfl (by kernel_rfl) (by kernel_rfl)))
  ·have h := ifF hb_6 h
   refine AW.skip ?_
   refine hK_5 _ ?_
   refine AW.sa fokW [] ⟨[(4, .d (I (n.tmod many)))], [], 0, Fr.emp, [], 0⟩ (by kernel_rfl) ?_
   obtain rfl := Option.some.inj h
   exact AW.ret (hR_0 _ (retX (.cons (.tmp rfl) .nil) (.refl _) rfl (by kernel_rfl) (by kernel_rfl)))
def g93 (l : (List Int)) (n : Int) : Option Int := bif (decide ((l.length : Int) = 0)) then (some 0) else ((g39 n (l.length : Int)).bind fun r0_2 => (ixL l r0_2).bind fun p => some p)
theorem k93 (l : (List Int)) (n : Int) (r : Int) (h : g93 l n = some r) : SCall Tryd.prog Gs 93 [.d (.sl 1 (List.map e3 l)), .d (I n)] [] 0 Fr.emp (.d (I r)) [] 0 Fr.emp := by
 unfold g93 at h
 refine SCall.mkK Tryd.func93 c93 rfl rfl (by kernel_rfl) (fun Q_0 hR_0 hN_0 => ?_)
 refine AW.sa fokW [] ⟨[(0, .d (.sl 1 (List.map e3 l))), (1, .d (I n))], [], 0, Fr.emp, [], 0⟩ (by kernel_rfl) ?_
 refine AW.seqK (fun K_1 hK_1 => ?_)
 refine AW.srwK (fun Q_2 hQ_2 => ?_)
 refine RW.au fokW 1 [] ⟨[(0, .d (.sl 1 (List.map e3 l))), (1, .d (I n)), (5, .d (.sl 1 (List.map e3 l)))], [], 0, Fr.emp, [], 0⟩ (by kernel_rfl) ?_
 refine RW.one fokW (r_lenX trivial rfl lenm (r_end ?_))
 refine RW.au fokW 1 [] ⟨[(0, .d (.sl 1 (List.map e3 l))), (1, .d (I n)), (7, .d (.bool (decide ((l.length : Int) = 0))))], [], 0, Fr.emp, [], 0⟩ (by kernel_rfl) ?_
 refine RW.nil ?_
 refine hQ_2 _ ?_
 refine AW.cond rfl (fun hb_3 => ?_) (fun hb_3 => ?_)
 ·have h := ifT hb_3 h
  refine AW.sa fokW [] ⟨[(4, .d (I 0))], [], 0, Fr.emp, [], 0⟩ (by kernel_rfl) ?_
  obtain rfl := Option.some.inj h
  exact AW.ret (hR_0 _ (retX (.cons (.tmp rfl) .nil) (.refl _) rfl (by kernel_rfl) (by kernel_rfl)))
 ·have h := ifF hb_3 h
  refine AW.skip ?_
  refine hK_1 _ ?_
  refine AW.srwK (fun Q_4 hQ_4 => ?_)
  refine RW.au fokW 3 [] ⟨[(8, .d (.sl 1 (List.map e3 l))), (9, .d (I n)), (10, .d (.sl 1 (List.map e3 l)))], [], 0, Fr.emp, [], 0⟩ (by kernel_rfl) ?_
  refine RW.one fokW (r_lenX trivial rfl lenm (r_end ?_))
  obtain ⟨r0_2, hx_5, h⟩ := bsome h
  refine RW.one fokW (r_call trivial rfl (k39 n (l.length : Int) _ hx_5) rfl rfl (r_end ?_))
  obtain ⟨p, hv_6, h⟩ := bsome h
  refine RW.one fokW (r_iaD trivial rfl rfl (ixL_ok hv_6).1 (row := e3 p) (mapget (ixL_ok hv_6).2) (r_end ?_))
  refine RW.au fokW 2 [] ⟨[(4, .d (I p))], [], 0, Fr.emp, [], 0⟩ (by kernel_rfl) ?_
  refine RW.nil ?_
  refine hQ_4 _ ?_
  obtain rfl := Option.some.inj h
  exact AW.ret (hR_0 _ (retX (.cons (.tmp rfl) .nil) (.refl _) rfl (by kernel_rfl) (by kernel_rfl)))
def g36_2 (b : HairBook) (bits : (List Int)) : Int → (List Int) → Option (List Int) := fun i l => (g93 bits i).bind fun r0_1 => (g39 (wr (r0_1 + (wr (i.tdiv 2)))) (b.Hanks.length : Int)).bind fun r0_2 => (appL 8 l [r0_2]).bind fun l1 => some l1
def g36 (b : HairBook) (bits : (List Int)) : Option (List Int) := (forS (g36_2 b bits) ((((wr (2 * (b.Horses.length : Int))) : Int) - 0).toNat) 0 ([] : List Int)).bind fun l => some l
theorem k36 (b : HairBook) (bits : (List Int)) (r : (List Int)) (h : g36 b bits = some r) : SCall Tryd.prog Gs 36 [.agg (cv25 b), .d (.sl 1 (List.map e3 bits))] [] 0 Fr.emp (.d (.sl 1 (List.map e3 r))) [] 0 Fr.emp := by
 unfold g36 at h
 refine SCall.mkK Tryd.func36 c36 rfl rfl (by kernel_rfl) (fun Q_0 hR_0 hN_0 => ?_)
 refine AW.sa fokW [] ⟨[(1, .d (.sl 1 (List.map e3 bits))), (2, .ptr 0 0)], [(0, .var 25 (cv25 b))], 1, Fr.emp, [], 0⟩ (by kernel_rfl) ?_
 refine AW.sa fokW [] ⟨[(1, .d (.sl 1 (List.map e3 bits))), (2, .ptr 0 0), (5, .own 1 (List.map e3 []).length)], [(1, .row 3 1 (List.map e3 [])), (0, .var 25 (cv25 b))], 2, Fr.emp, [], 0⟩ (by kernel_rfl) ?_
 refine AW.seqK (fun K_1 hK_1 => ?_)
 refine AW.sa fokW [] ⟨[(1, .d (.sl 1 (List.map e3 bits))), (2, .ptr 0 0), (5, .own 1 (List.map e3 []).length), (6, .d (I 0))], [(1, .row 3 1 (List.map e3 [])), (0, .var 25 (cv25 b))], 2, Fr.emp, [], 0⟩ (by kernel_rfl) ?_
 refine AW.block ?_
 have hN_2 : (wr (2 * (b.Horses.length : Int))) ≤ 9223372036854775807 := (wr_range _).2
 obtain ⟨out_2, hx_2, h⟩ := bsome h
 refine AW.lpSK (fun (i : Int) (l : List Int) => ⟨[(1, .d (.sl 1 (List.map e3 bits))), (2, .ptr 0 0), (5, .own 1 (List.map e3 l).length), (6, .d (I i))], [(1, .row 3 1 (List.map e3 l)), (0, .var 25 (cv25 b))], 2, Fr.emp, [], 0⟩) (g36_2 b bits) ((wr (2 * (b.Horses.length : Int)))) hx_2 (Can.kp (by kernel_rfl)) (fun i l hi_2 hl_2 c_2 h K_2 hK_2 => ?_) (fun i l hi_2 hl_2 hout => ?_)
 ·unfold g36_2 at h
  refine AW.seqK (fun K_3 hK_3 => ?_)
  refine AW.srwK (fun Q_4 hQ_4 => ?_)
  refine RW.au fokW 3 [] ⟨[(1, .d (.sl 1 (List.map e3 bits))), (2, .ptr 0 0), (5, .own 1 (List.map e3 l).length), (6, .d (I i)), (8, .d (I i)), (10, .d (.sl 3 (List.map e69 b.Horses)))], [(1, .row 3 1 (List.map e3 l)), (0, .var 25 (cv25 b))], 2, Fr.emp, [], 0⟩ (by kernel_rfl) ?_
  refine RW.one fokW (r_lenX trivial rfl lenm (r_end ?_))
  refine RW.au fokW 2 [] ⟨[(1, .d (.sl 1 (List.map e3 bits))), (2, .ptr 0 0), (5, .own 1 (List.map e3 l).length), (6, .d (I i)), (13, .d (.bool (decide (i < (wr (2 * (b.Horses.length : Int)))))))], [(1, .row 3 1 (List.map e3 l)), (0, .var 25 (cv25 b))], 2, Fr.emp, [], 0⟩ (by kernel_rfl) ?_
  refine RW.nil ?_
  refine hQ_4 _ ?_
  refine AW.cond rfl (fun hb_5 => ?_) (fun hb_5 => False.elim (by have := of_decide_eq_false hb_5; omega))
  refine AW.skip ?_
  refine hK_3 _ ?_
  refine AW.seqK (fun K_6 hK_6 => ?_)
  refine AW.block ?_
  refine AW.drw fokW ?_
  refine RunC.auX 3 ⟨[(1, .d (.sl 1 (List.map e3 bits))), (2, .ptr 0 0), (6, .d (I i)), (16, .own 1 (List.map e3 l).length), (17, .d (.sl 1 (List.map e3 bits))), (18, .d (I i))], [(1, .row 3 1 (List.map e3 l)), (0, .var 25 (cv25 b))], 2, Fr.emp, [], 0⟩ (by kernel_rfl) ?_
  obtain ⟨r0_1, hx_8, h⟩ := bsome h
  refine r_call trivial rfl (k93 bits i _ hx_8) rfl rfl ?_
  refine RunC.auX 5 ⟨[(1, .d (.sl 1 (List.map e3 bits))), (2, .ptr 0 0), (6, .d (I i)), (16, .own 1 (List.map e3 l).length), (22, .d (I (wr (r0_1 + (wr (i.tdiv 2)))))), (24, .d (.sl 4 (List.map e58 b.Hanks)))], [(1, .row 3 1 (List.map e3 l)), (0, .var 25 (cv25 b))], 2, Fr.emp, [], 0⟩ (by kernel_rfl) ?_
  refine r_lenX trivial rfl lenm ?_
  obtain ⟨r0_2, hx_9, h⟩ := bsome h
  refine r_call trivial rfl (k39 (wr (r0_1 + (wr (i.tdiv 2)))) (b.Hanks.length : Int) _ hx_9) rfl rfl ?_
  refine RunC.auX 1 ⟨[(1, .d (.sl 1 (List.map e3 bits))), (2, .ptr 0 0), (6, .d (I i)), (16, .own 1 (List.map e3 l).length), (27, .own 2 (List.map e3 [r0_2]).length)], [(2, .row 3 1 (List.map e3 [r0_2])), (1, .row 3 1 (List.map e3 l)), (0, .var 25 (cv25 b))], 3, Fr.emp, [], 0⟩ (by kernel_rfl) ?_
  obtain ⟨l1, hv_10, h⟩ := bsome h
  refine r_apO trivial rfl rfl rfl rfl rfl rfl (apz hv_10 e3) (apr hv_10 e3) ?_
  refine RunC.auX 1 ⟨[(1, .d (.sl 1 (List.map e3 bits))), (2, .ptr 0 0), (5, .own 1 (List.map e3 l1).length), (6, .d (I i))], [(1, .row 3 1 (List.map e3 l1)), (2, .row 3 1 (List.map e3 [r0_2])), (0, .var 25 (cv25 b))], 3, Fr.emp, [], 0⟩ (by kernel_rfl) ?_
  refine RunC.fin ⟨[(1, .d (.sl 1 (List.map e3 bits))), (2, .ptr 0 0), (5, .own 1 (List.map e3 l1).length), (6, .d (I i))], [(1, .row 3 1 (List.map e3 l1)), (0, .var 25 (cv25 b))], 3, Fr.emp, [], 0⟩ (by kernel_rfl) (by kernel_rfl) ?_
  refine hK_6 _ ?_
  refine AW.ra fokW [] ⟨[(1, .d (.sl 1 (List.map e3 bits))), (2, .ptr 0 0), (5, .own 1 (List.map e3 l1).length), (6, .d (I (wr (i + 1))))], [(1, .row 3 1 (List.map e3 l1)), (0, .var 25 (cv25 b))], 3, Fr.emp, [], 0⟩ (by kernel_rfl) ?_
  obtain rfl := Option.some.inj h
  have ew : wr (i + 1) = i + 1 := inext (N := (wr (2 * (b.Horses.length : Int)))) (by omega) (by omega) (by omega)
  rw [ew]
  exact hK_2 _ (Can.kp (by kernel_rfl))
 ·subst hout
  refine AW.seqK (fun K_11 hK_11 => ?_)
  refine AW.srwK (fun Q_12 hQ_12 => ?_)
  refine RW.au fokW 3 [] ⟨[(1, .d (.sl 1 (List.map e3 bits))), (2, .ptr 0 0), (5, .own 1 (List.map e3 l).length), (6, .d (I i)), (8, .d (I i)), (10, .d (.sl 3 (List.map e69 b.Horses)))], [(1, .row 3 1 (List.map e3 l)), (0, .var 25 (cv25 b))], 2, Fr.emp, [], 0⟩ (by kernel_rfl) ?_
  refine RW.one fokW (r_lenX trivial rfl lenm (r_end ?_))
  refine RW.au fokW 2 [] ⟨[(1, .d (.sl 1 (List.map e3 bits))), (2, .ptr 0 0), (5, .own 1 (List.map e3 l).length), (6, .d (I i)), (13, .d (.bool (decide (i < (wr (2 * (b.Horses.length : Int)))))))], [(1, .row 3 1 (List.map e3 l)), (0, .var 25 (cv25 b))], 2, Fr.emp, [], 0⟩ (by kernel_rfl) ?_
  refine RW.nil ?_
  refine hQ_12 _ ?_
  refine AW.cond rfl (fun hb_13 => False.elim (by have := of_decide_eq_true hb_13; omega)) (fun hb_13 => ?_)
  refine AW.exit ?_
  refine hK_1 _ ?_
  refine AW.sa fokW [] ⟨[(4, .own 1 (List.map e3 l).length)], [(1, .row 3 1 (List.map e3 l))], 2, Fr.emp, [], 0⟩ (by kernel_rfl) ?_
  obtain rfl := Option.some.inj h
  exact AW.ret (hR_0 _ (retX (.cons (.tmp rfl) .nil) (.own rfl rfl) rfl (by kernel_rfl) (by kernel_rfl)))
def g37_4 (b : HairBook) (plan : (List Int)) : (Bool × Int) → Option (Ctl (Bool × Int) (Bool)) := fun  (ok2, i) => (bif ok2 then (some (decide (i < (plan.length : Int)))) else (some false)).bind fun v => bif v then ((ixL plan i).bind fun p => (g50 p 0 (wr ((b.Hanks.length : Int) - 1))).bind fun r0 => some (.next (r0, (wr (i + 1))))) else (some (.brk ok2))
def g37 (b : HairBook) (plan : (List Int)) : Option Bool := ((whileC (g37_4 b plan) 1000 ((decide ((plan.length : Int) = (wr (2 * (b.Horses.length : Int))))), 0)).bind fun ok1 => some ok1).bind fun ok => some ok
theorem k37 (b : HairBook) (plan : (List Int)) (r : Bool) (h : g37 b plan = some r) : SCall Tryd.prog Gs 37 [.agg (cv25 b), .d (.sl 1 (List.map e3 plan))] [] 0 Fr.emp (.d (.bool r)) [] 0 Fr.emp := by
 unfold g37 at h
 refine SCall.mkK Tryd.func37 c37 rfl rfl (by kernel_rfl) (fun Q_0 hR_0 hN_0 => ?_)
 refine AW.sa fokW [] ⟨[(1, .d (.sl 1 (List.map e3 plan))), (2, .ptr 0 0)], [(0, .var 25 (cv25 b))], 1, Fr.emp, [], 0⟩ (by kernel_rfl) ?_
 refine AW.srwK (fun Q_1 hQ_1 => ?_)
 refine RW.au fokW 1 [] ⟨[(1, .d (.sl 1 (List.map e3 plan))), (2, .ptr 0 0), (7, .d (.sl 1 (List.map e3 plan)))], [(0, .var 25 (cv25 b))], 1, Fr.emp, [], 0⟩ (by kernel_rfl) ?_
 refine RW.one fokW (r_lenX trivial rfl lenm (r_end ?_))
 refine RW.au fokW 2 [] ⟨[(1, .d (.sl 1 (List.map e3 plan))), (2, .ptr 0 0), (8, .d (I (plan.length : Int))), (10, .d (.sl 3 (List.map e69 b.Horses)))], [(0, .var 25 (cv25 b))], 1, Fr.emp, [], 0⟩ (by kernel_rfl) ?_
 refine RW.one fokW (r_lenX trivial rfl lenm (r_end ?_))
 refine RW.au fokW 3 [] ⟨[(1, .d (.sl 1 (List.map e3 plan))), (2, .ptr 0 0), (5, .d (.bool (decide ((plan.length : Int) = (wr (2 * (b.Horses.length : Int)))))))], [(0, .var 25 (cv25 b))], 1, Fr.emp, [], 0⟩ (by kernel_rfl) ?_
 refine RW.nil ?_
 refine hQ_1 _ ?_
 obtain ⟨ok, hx_2, h⟩ := bsome h
 refine AW.jnSK (fun (ok : Bool) => ⟨[(5, .d (.bool ok))], [], 1, Fr.emp, [], 0⟩) (c := ok) (fun K_2 hK_2 => ?_) ?_
 ·have h := hx_2
  refine AW.sa fokW [] ⟨[(1, .d (.sl 1 (List.map e3 plan))), (2, .ptr 0 0), (5, .d (.bool (decide ((plan.length : Int) = (wr (2 * (b.Horses.length : Int))))))), (6, .d (I 0))], [(0, .var 25 (cv25 b))], 1, Fr.emp, [], 0⟩ (by kernel_rfl) ?_
  obtain ⟨ok1, hx_3, h⟩ := bsome h
  refine AW.jqSK (fun (ok1 : Bool) => ⟨[(5, .d (.bool ok1))], [], 1, Fr.emp, [], 0⟩) (c := ok1) (fun K_3 hK_3 => ?_) ?_
  ·have h := hx_3
   refine AW.block ?_
   refine AW.whK (fun (⟨ok2, i⟩ : Bool × Int) => ⟨[(1, .d (.sl 1 (List.map e3 plan))), (2, .ptr 0 0), (5, .d (.bool ok2)), (6, .d (I i))], [(0, .var 25 (cv25 b))], 1, Fr.emp, [], 0⟩) (g37_4 b plan) h (Can.kp (by kernel_rfl)) (fun s_4 c_4 h hb_4 K_4 hK_4 => ?_)
   obtain ⟨ok2, i⟩ := s_4
   unfold g37_4 at h
   refine AW.seqK (fun K_5 hK_5 => ?_)
   refine AW.srwK (fun Q_6 hQ_6 => ?_)
   refine RW.au fokW 2 [] ⟨[(1, .d (.sl 1 (List.map e3 plan))), (2, .ptr 0 0), (5, .d (.bool ok2)), (6, .d (I i)), (15, .d (.bool ok2))], [(0, .var 25 (cv25 b))], 1, Fr.emp, [], 0⟩ (by kernel_rfl) ?_
   obtain ⟨v, hx_7, h⟩ := bsome h
   refine RW.cut fokW 5 (⟨[(1, .d (.sl 1 (List.map e3 plan))), (2, .ptr 0 0), (5, .d (.bool ok2)), (6, .d (I i)), (20, .d (.bool v))], [(0, .var 25 (cv25 b))], 1, Fr.emp, [], 0⟩) ?_ ?_
   ·refine r_split 15 rfl (fun hb_8 => ?_) (fun hb_8 => ?_)
    ·have h := ifT hb_8 hx_7
     refine RunC.auX 2 ⟨[(1, .d (.sl 1 (List.map e3 plan))), (2, .ptr 0 0), (5, .d (.bool ok2)), (6, .d (I i)), (15, .d (.bool true)), (16, .d (I i)), (17, .d (.sl 1 (List.map e3 plan)))], [(0, .var 25 (cv25 b))], 1, Fr.emp, [], 0⟩ (by kernel_rfl) ?_
     refine r_lenX rfl rfl lenm ?_
     refine RunC.auX 2 ⟨[(1, .d (.sl 1 (List.map e3 plan))), (2, .ptr 0 0), (5, .d (.bool ok2)), (6, .d (I i)), (20, .d (.bool (decide (i < (plan.length : Int)))))], [(0, .var 25 (cv25 b))], 1, Fr.emp, [], 0⟩ (by kernel_rfl) ?_
     obtain rfl := Option.some.inj h
     refine RunC.finJ (Can.kp (by kernel_rfl))
    ·have h := ifF hb_8 hx_7
     refine RunC.auX 5 ⟨[(1, .d (.sl 1 (List.map e3 plan))), (2, .ptr 0 0), (5, .d (.bool ok2)), (6, .d (I i)), (20, .d (.bool false))], [(0, .var 25 (cv25 b))], 1, Fr.emp, [], 0⟩ (by kernel_rfl) ?_
     obtain rfl := Option.some.inj h
     refine RunC.finJ (Can.kp (by kernel_rfl))
   ·refine RW.nil ?_
    refine hQ_6 _ ?_
    refine AW.cond rfl (fun hb_9 => ?_) (fun hb_9 => ?_)
    ·have h := ifT hb_9 h
     refine AW.skip ?_
     refine hK_5 _ ?_
     refine AW.seqK (fun K_10 hK_10 => ?_)
     refine AW.block ?_
     refine AW.drw fokW ?_
     refine RunC.auX 2 ⟨[(1, .d (.sl 1 (List.map e3 plan))), (2, .ptr 0 0), (6, .d (I i)), (23, .d (.sl 1 (List.map e3 plan))), (24, .d (I i))], [(0, .var 25 (cv25 b))], 1, Fr.emp, [], 0⟩ (by kernel_rfl) ?_
     obtain ⟨p, hv_12, h⟩ := bsome h
     refine r_iaD trivial rfl rfl (ixL_ok hv_12).1 (row := e3 p) (mapget (ixL_ok hv_12).2) ?_
     refine RunC.auX 3 ⟨[(1, .d (.sl 1 (List.map e3 plan))), (2, .ptr 0 0), (6, .d (I i)), (26, .d (I p)), (28, .d (.sl 4 (List.map e58 b.Hanks)))], [(0, .var 25 (cv25 b))], 1, Fr.emp, [], 0⟩ (by kernel_rfl) ?_
     refine r_lenX trivial rfl lenm ?_
     refine RunC.auX 1 ⟨[(1, .d (.sl 1 (List.map e3 plan))), (2, .ptr 0 0), (6, .d (I i)), (26, .d (I p)), (30, .d (I (wr ((b.Hanks.length : Int) - 1))))], [(0, .var 25 (cv25 b))], 1, Fr.emp, [], 0⟩ (by kernel_rfl) ?_
     obtain ⟨r0, hx_13, h⟩ := bsome h
     refine r_call trivial rfl (k50 p 0 (wr ((b.Hanks.length : Int) - 1)) _ hx_13) rfl rfl ?_
     refine RunC.auX 1 ⟨[(1, .d (.sl 1 (List.map e3 plan))), (2, .ptr 0 0), (5, .d (.bool r0)), (6, .d (I i))], [(0, .var 25 (cv25 b))], 1, Fr.emp, [], 0⟩ (by kernel_rfl) ?_
     refine RunC.fin ⟨[(1, .d (.sl 1 (List.map e3 plan))), (2, .ptr 0 0), (5, .d (.bool r0)), (6, .d (I i))], [(0, .var 25 (cv25 b))], 1, Fr.emp, [], 0⟩ (by kernel_rfl) (by kernel_rfl) ?_
     refine hK_10 _ ?_
     refine AW.ra fokW [] ⟨[(1, .d (.sl 1 (List.map e3 plan))), (2, .ptr 0 0), (5, .d (.bool r0)), (6, .d (I (wr (i + 1))))], [(0, .var 25 (cv25 b))], 1, Fr.emp, [], 0⟩ (by kernel_rfl) ?_
     obtain rfl := Option.some.inj h
     exact hK_4 _ _ rfl (Can.kp (by kernel_rfl))
    ·have h := ifF hb_9 h
     refine AW.exit ?_
     obtain rfl := Option.some.inj h
     obtain rfl := hb_4 _ rfl
     exact hK_3 _ (Can.kp (by kernel_rfl))
  ·obtain rfl := Option.some.inj h
   exact hK_2 _ (Can.kp (by kernel_rfl))
 ·refine AW.sa fokW [] ⟨[(4, .d (.bool ok))], [], 1, Fr.emp, [], 0⟩ (by kernel_rfl) ?_
  obtain rfl := Option.some.inj h
  exact AW.ret (hR_0 _ (retX (.cons (.tmp rfl) .nil) (.refl _) rfl (by kernel_rfl) (by kernel_rfl)))
def g41_4 (plan : (List Int)) : Int → HairHorse → (List Int) → Option (List Int) := fun i p l1 => (ixL plan (wr (2 * i))).bind fun p1 => (ixL l1 p1).bind fun p2 => (ixL plan (wr ((wr (2 * i)) + 1))).bind fun p3 => (ixL (setL l1 p1 (wr (p2 + p.Mane))) p3).bind fun p4 => some (setL (setL l1 p1 (wr (p2 + p.Mane))) p3 (wr (p4 + p.Tail)))
def g41 (b : HairBook) (plan : (List Int)) : Option (List Int) := (mkL2 8 (b.Hanks.length : Int) (b.Hanks.length : Int) 0).bind fun l => (eachS (g41_4 plan) b.Horses 0 l).bind fun l1 => some l1
theorem k41 (b : HairBook) (plan : (List Int)) (r : (List Int)) (h : g41 b plan = some r) : SCall Tryd.prog Gs 41 [.agg (cv25 b), .d (.sl 1 (List.map e3 plan))] [] 0 Fr.emp (.d (.sl 1 (List.map e3 r))) [] 0 Fr.emp := by
 unfold g41 at h
 refine SCall.mkK Tryd.func41 c41 rfl rfl (by kernel_rfl) (fun Q_0 hR_0 hN_0 => ?_)
 refine AW.sa fokW [] ⟨[(1, .d (.sl 1 (List.map e3 plan))), (2, .ptr 0 0)], [(0, .var 25 (cv25 b))], 1, Fr.emp, [], 0⟩ (by kernel_rfl) ?_
 refine AW.srwK (fun Q_1 hQ_1 => ?_)
 refine RW.au fokW 2 [] ⟨[(1, .d (.sl 1 (List.map e3 plan))), (2, .ptr 0 0), (8, .d (.sl 4 (List.map e58 b.Hanks)))], [(0, .var 25 (cv25 b))], 1, Fr.emp, [], 0⟩ (by kernel_rfl) ?_
 refine RW.one fokW (r_lenX trivial rfl lenm (r_end ?_))
 obtain ⟨l, hv_2, h⟩ := bsome h
 refine RW.one fokW (r_mkX e3 trivial rfl rfl hv_2 rfl (r_end ?_))
 refine RW.au fokW 1 [] ⟨[(1, .d (.sl 1 (List.map e3 plan))), (2, .ptr 0 0), (5, .own 1 (List.map e3 l).length)], [(1, .row 3 1 (List.map e3 l)), (0, .var 25 (cv25 b))], 2, Fr.emp, [], 0⟩ (by kernel_rfl) ?_
 refine RW.nil ?_
 refine hQ_1 _ ?_
 refine AW.seqK (fun K_3 hK_3 => ?_)
 refine AW.sa fokW [] ⟨[(1, .d (.sl 1 (List.map e3 plan))), (2, .ptr 0 0), (5, .own 1 (List.map e3 l).length), (6, .d (I 0))], [(1, .row 3 1 (List.map e3 l)), (0, .var 25 (cv25 b))], 2, Fr.emp, [], 0⟩ (by kernel_rfl) ?_
 refine AW.block ?_
 refine AW.slh (r := 0) (off := 1) rfl rfl (fun hN_4 => ?_)
 rw [List.length_map] at hN_4
 obtain ⟨out_4, hx_4, h⟩ := bsome h
 refine AW.evSK (fun (i : Int) (l1 : List Int) => ⟨[(1, .d (.sl 1 (List.map e3 plan))), (2, .ptr 0 0), (5, .own 1 (List.map e3 l1).length), (6, .d (I i))], [(1, .row 3 1 (List.map e3 l1)), (0, .var 25 (cv25 b))], 2, Fr.emp, [], 0⟩) (g41_4 plan) hx_4 (Can.kp (by kernel_rfl)) (fun i p l1 hi_4 hl_4 hp_4 c_4 h K_4 hK_4 => ?_) (fun i l1 hi_4 hl_4 hout => ?_)
 ·unfold g41_4 at h
  refine AW.seqK (fun K_5 hK_5 => ?_)
  refine AW.srwK (fun Q_6 hQ_6 => ?_)
  refine RW.au fokW 3 [] ⟨[(1, .d (.sl 1 (List.map e3 plan))), (2, .ptr 0 0), (5, .own 1 (List.map e3 l1).length), (6, .d (I i)), (11, .d (I i)), (13, .d (.sl 3 (List.map e69 b.Horses)))], [(1, .row 3 1 (List.map e3 l1)), (0, .var 25 (cv25 b))], 2, Fr.emp, [], 0⟩ (by kernel_rfl) ?_
  refine RW.one fokW (r_lenX trivial rfl lenm (r_end ?_))
  refine RW.au fokW 1 [] ⟨[(1, .d (.sl 1 (List.map e3 plan))), (2, .ptr 0 0), (5, .own 1 (List.map e3 l1).length), (6, .d (I i)), (15, .d (.bool (decide (i < (b.Horses.length : Int)))))], [(1, .row 3 1 (List.map e3 l1)), (0, .var 25 (cv25 b))], 2, Fr.emp, [], 0⟩ (by kernel_rfl) ?_
  refine RW.nil ?_
  refine hQ_6 _ ?_
  refine AW.cond rfl (fun hb_7 => ?_) (fun hb_7 => False.elim (by have := of_decide_eq_false hb_7; omega))
  refine AW.skip ?_
  refine hK_5 _ ?_
  refine AW.seqK (fun K_8 hK_8 => ?_)
  refine AW.block ?_
  refine AW.sdrwK fokW (fun Q_9 hQ_9 => ?_)
  refine RunC.auX 4 ⟨[(1, .d (.sl 1 (List.map e3 plan))), (2, .ptr 0 0), (5, .own 1 (List.map e3 l1).length), (6, .d (I i)), (18, .own 1 (List.map e3 l1).length), (19, .d (.sl 1 (List.map e3 plan))), (21, .d (I (wr (2 * i))))], [(1, .row 3 1 (List.map e3 l1)), (0, .var 25 (cv25 b))], 2, Fr.emp, [], 0⟩ (by kernel_rfl) ?_
  obtain ⟨p1, hv_10, h⟩ := bsome h
  refine r_iaD trivial rfl rfl (ixL_ok hv_10).1 (row := e3 p1) (mapget (ixL_ok hv_10).2) ?_
  refine RunC.auX 1 ⟨[(1, .d (.sl 1 (List.map e3 plan))), (2, .ptr 0 0), (5, .own 1 (List.map e3 l1).length), (6, .d (I i)), (18, .own 1 (List.map e3 l1).length), (23, .d (I p1))], [(1, .row 3 1 (List.map e3 l1)), (0, .var 25 (cv25 b))], 2, Fr.emp, [], 0⟩ (by kernel_rfl) ?_
  obtain ⟨p2, hv_11, h⟩ := bsome h
  refine r_iaO trivial rfl rfl rfl (ixL_ok hv_11).1 (ix_lt (ixL_ok hv_11).2) rfl ?_
  refine r_loadE trivial rfl rfl rfl (mapget (f := e3) (ixL_ok hv_11).2) rfl ?_
  refine RunC.auX 3 ⟨[(1, .d (.sl 1 (List.map e3 plan))), (2, .ptr 0 0), (5, .own 1 (List.map e3 l1).length), (6, .d (I i)), (18, .own 1 (List.map e3 l1).length), (23, .d (I p1)), (25, .d (I p2)), (27, .d (.sl 3 (List.map e69 b.Horses))), (28, .d (I i))], [(1, .row 3 1 (List.map e3 l1)), (0, .var 25 (cv25 b))], 2, Fr.emp, [], 0⟩ (by kernel_rfl) ?_
  refine r_iaD trivial rfl rfl hi_4 (row := e69 p) (mapget hp_4) ?_
  refine RunC.auX 3 ⟨[(1, .d (.sl 1 (List.map e3 plan))), (2, .ptr 0 0), (5, .own 1 (List.map e3 l1).length), (6, .d (I i)), (18, .own 1 (List.map e3 l1).length), (23, .d (I p1)), (32, .d (I (wr (p2 + p.Mane))))], [(1, .row 3 1 (List.map e3 l1)), (0, .var 25 (cv25 b))], 2, Fr.emp, [], 0⟩ (by kernel_rfl) ?_
  refine r_iaO trivial rfl rfl rfl (ixL_ok hv_11).1 (ix_lt (ixL_ok hv_11).2) rfl ?_
  refine r_stE trivial rfl rfl rfl rfl (mapget (f := e3) (ixL_ok hv_11).2) rfl rfl rfl (Nat.le_of_ble_eq_true rfl) (stz (f := e3) (x := (wr (p2 + p.Mane))) rfl) ?_
  rw [lenset (f := e3) (xs := l1) (i := p1) (x := (wr (p2 + p.Mane)))]
  refine RunC.fin ⟨[(1, .d (.sl 1 (List.map e3 plan))), (2, .ptr 0 0), (5, .own 1 (List.map e3 (setL l1 p1 (wr (p2 + p.Mane)))).length), (6, .d (I i))], [(1, .row 3 1 (List.map e3 (setL l1 p1 (wr (p2 + p.Mane))))), (0, .var 25 (cv25 b))], 2, Fr.emp, [], 0⟩ (by kernel_rfl) (by kernel_rfl) ?_
  refine hQ_9 _ ?_
  refine AW.drw fokW ?_
  refine RunC.auX 5 ⟨[(1, .d (.sl 1 (List.map e3 plan))), (2, .ptr 0 0), (5, .own 1 (List.map e3 (setL l1 p1 (wr (p2 + p.Mane)))).length), (6, .d (I i)), (34, .own 1 (List.map e3 (setL l1 p1 (wr (p2 + p.Mane)))).length), (35, .d (.sl 1 (List.map e3 plan))), (38, .d (I (wr ((wr (2 * i)) + 1))))], [(1, .row 3 1 (List.map e3 (setL l1 p1 (wr (p2 + p.Mane))))), (0, .var 25 (cv25 b))], 2, Fr.emp, [], 0⟩ (by kernel_rfl) ?_
  obtain ⟨p3, hv_13, h⟩ := bsome h
  refine r_iaD trivial rfl rfl (ixL_ok hv_13).1 (row := e3 p3) (mapget (ixL_ok hv_13).2) ?_
  refine RunC.auX 1 ⟨[(1, .d (.sl 1 (List.map e3 plan))), (2, .ptr 0 0), (5, .own 1 (List.map e3 (setL l1 p1 (wr (p2 + p.Mane)))).length), (6, .d (I i)), (34, .own 1 (List.map e3 (setL l1 p1 (wr (p2 + p.Mane)))).length), (40, .d (I p3))], [(1, .row 3 1 (List.map e3 (setL l1 p1 (wr (p2 + p.Mane))))), (0, .var 25 (cv25 b))], 2, Fr.emp, [], 0⟩ (by kernel_rfl) ?_
  obtain ⟨p4, hv_14, h⟩ := bsome h
  refine r_iaO trivial rfl rfl rfl (ixL_ok hv_14).1 (ix_lt (ixL_ok hv_14).2) rfl ?_
  refine r_loadE trivial rfl rfl rfl (mapget (f := e3) (ixL_ok hv_14).2) rfl ?_
  refine RunC.auX 3 ⟨[(1, .d (.sl 1 (List.map e3 plan))), (2, .ptr 0 0), (5, .own 1 (List.map e3 (setL l1 p1 (wr (p2 + p.Mane)))).length), (6, .d (I i)), (34, .own 1 (List.map e3 (setL l1 p1 (wr (p2 + p.Mane)))).length), (40, .d (I p3)), (42, .d (I p4)), (44, .d (.sl 3 (List.map e69 b.Horses))), (45, .d (I i))], [(1, .row 3 1 (List.map e3 (setL l1 p1 (wr (p2 + p.Mane))))), (0, .var 25 (cv25 b))], 2, Fr.emp, [], 0⟩ (by kernel_rfl) ?_
  refine r_iaD trivial rfl rfl hi_4 (row := e69 p) (mapget hp_4) ?_
  refine RunC.auX 3 ⟨[(1, .d (.sl 1 (List.map e3 plan))), (2, .ptr 0 0), (5, .own 1 (List.map e3 (setL l1 p1 (wr (p2 + p.Mane)))).length), (6, .d (I i)), (34, .own 1 (List.map e3 (setL l1 p1 (wr (p2 + p.Mane)))).length), (40, .d (I p3)), (49, .d (I (wr (p4 + p.Tail))))], [(1, .row 3 1 (List.map e3 (setL l1 p1 (wr (p2 + p.Mane))))), (0, .var 25 (cv25 b))], 2, Fr.emp, [], 0⟩ (by kernel_rfl) ?_
  refine r_iaO trivial rfl rfl rfl (ixL_ok hv_14).1 (ix_lt (ixL_ok hv_14).2) rfl ?_
  refine r_stE trivial rfl rfl rfl rfl (mapget (f := e3) (ixL_ok hv_14).2) rfl rfl rfl (Nat.le_of_ble_eq_true rfl) (stz (f := e3) (x := (wr (p4 + p.Tail))) rfl) ?_
  rw [lenset (f := e3) (xs := (setL l1 p1 (wr (p2 + p.Mane)))) (i := p3) (x := (wr (p4 + p.Tail)))]
  refine RunC.fin ⟨[(1, .d (.sl 1 (List.map e3 plan))), (2, .ptr 0 0), (5, .own 1 (List.map e3 (setL (setL l1 p1 (wr (p2 + p.Mane))) p3 (wr (p4 + p.Tail)))).length), (6, .d (I i))], [(1, .row 3 1 (List.map e3 (setL (setL l1 p1 (wr (p2 + p.Mane))) p3 (wr (p4 + p.Tail))))), (0, .var 25 (cv25 b))], 2, Fr.emp, [], 0⟩ (by kernel_rfl) (by kernel_rfl) ?_
  refine hK_8 _ ?_
  refine AW.ra fokW [] ⟨[(1, .d (.sl 1 (List.map e3 plan))), (2, .ptr 0 0), (5, .own 1 (List.map e3 (setL (setL l1 p1 (wr (p2 + p.Mane))) p3 (wr (p4 + p.Tail)))).length), (6, .d (I (wr (i + 1))))], [(1, .row 3 1 (List.map e3 (setL (setL l1 p1 (wr (p2 + p.Mane))) p3 (wr (p4 + p.Tail))))), (0, .var 25 (cv25 b))], 2, Fr.emp, [], 0⟩ (by kernel_rfl) ?_
  obtain rfl := Option.some.inj h
  have ew : wr (i + 1) = i + 1 := inext (N := (b.Horses.length : Int)) (by omega) (by omega) (by omega)
  rw [ew]
  exact hK_4 _ (Can.kp (by kernel_rfl))
 ·subst hout
  refine AW.seqK (fun K_15 hK_15 => ?_)
  refine AW.srwK (fun Q_16 hQ_16 => ?_)
  refine RW.au fokW 3 [] ⟨[(1, .d (.sl 1 (List.map e3 plan))), (2, .ptr 0 0), (5, .own 1 (List.map e3 l1).length), (6, .d (I i)), (11, .d (I i)), (13, .d (.sl 3 (List.map e69 b.Horses)))], [(1, .row 3 1 (List.map e3 l1)), (0, .var 25 (cv25 b))], 2, Fr.emp, [], 0⟩ (by kernel_rfl) ?_
  refine RW.one fokW (r_lenX trivial rfl lenm (r_end ?_))
  refine RW.au fokW 1 [] ⟨[(1, .d (.sl 1 (List.map e3 plan))), (2, .ptr 0 0), (5, .own 1 (List.map e3 l1).length), (6, .d (I i)), (15, .d (.bool (decide (i < (b.Horses.length : Int)))))], [(1, .row 3 1 (List.map e3 l1)), (0, .var 25 (cv25 b))], 2, Fr.emp, [], 0⟩ (by kernel_rfl) ?_
  refine RW.nil ?_
  refine hQ_16 _ ?_
  refine AW.cond rfl (fun hb_17 => False.elim (by have := of_decide_eq_true hb_17; omega)) (fun hb_17 => ?_)
  refine AW.exit ?_
  refine hK_3 _ ?_
  refine AW.sa fokW [] ⟨[(4, .own 1 (List.map e3 l1).length)], [(1, .row 3 1 (List.map e3 l1))], 2, Fr.emp, [], 0⟩ (by kernel_rfl) ?_
  obtain rfl := Option.some.inj h
  exact AW.ret (hR_0 _ (retX (.cons (.tmp rfl) .nil) (.own rfl rfl) rfl (by kernel_rfl) (by kernel_rfl)))
def g94 (s : Span) (n : Int) : Option Int := (g39 n (wr ((wr (s.High - s.Low)) + 1))).bind fun r0_2 => some (wr (s.Low + r0_2))
theorem k94 (s : Span) (n : Int) (r : Int) (h : g94 s n = some r) : SCall Tryd.prog Gs 94 [.agg [.d (I s.Low), .d (I s.High)], .d (I n)] [] 0 Fr.emp (.d (I r)) [] 0 Fr.emp := by
 unfold g94 at h
 refine SCall.mkK Tryd.func94 c94 rfl rfl (by kernel_rfl) (fun Q_0 hR_0 hN_0 => ?_)
 refine AW.sa fokW [] ⟨[(1, .d (I n)), (2, .ptr 0 0)], [(0, .var 35 [.d (I s.Low), .d (I s.High)])], 1, Fr.emp, [], 0⟩ (by kernel_rfl) ?_
 refine AW.sdrwK fokW (fun Q_1 hQ_1 => ?_)
 refine RunC.auX 9 ⟨[(6, .d (I s.Low)), (7, .d (I n)), (13, .d (I (wr ((wr (s.High - s.Low)) + 1))))], [(0, .var 35 [.d (I s.Low), .d (I s.High)])], 1, Fr.emp, [], 0⟩ (by kernel_rfl) ?_
 obtain ⟨r0_2, hx_2, h⟩ := bsome h
 refine r_call trivial rfl (k39 n (wr ((wr (s.High - s.Low)) + 1)) _ hx_2) rfl rfl ?_
 refine RunC.auX 2 ⟨[(4, .d (I (wr (s.Low + r0_2))))], [(0, .var 35 [.d (I s.Low), .d (I s.High)])], 1, Fr.emp, [], 0⟩ (by kernel_rfl) ?_
 refine RunC.fin ⟨[(4, .d (I (wr (s.Low + r0_2))))], [], 1, Fr.emp, [], 0⟩ (by kernel_rfl) (by kernel_rfl) ?_
 refine hQ_1 _ ?_
 obtain rfl := Option.some.inj h
 exact AW.ret (hR_0 _ (retX (.cons (.tmp rfl) .nil) (.refl _) rfl (by kernel_rfl) (by kernel_rfl)))
def g95 (s : Span) (n : Int) : Option Bool := some ((decide (s.Low ≤ n)) && (decide (n ≤ s.High)))
theorem k95 (s : Span) (n : Int) (r : Bool) (h : g95 s n = some r) : SCall Tryd.prog Gs 95 [.agg [.d (I s.Low), .d (I s.High)], .d (I n)] [] 0 Fr.emp (.d (.bool r)) [] 0 Fr.emp := by
 unfold g95 at h
 refine SCall.mkK Tryd.func95 c95 rfl rfl (by kernel_rfl) (fun Q_0 hR_0 hN_0 => ?_)
 refine AW.sa fokW [] ⟨[(1, .d (I n)), (2, .ptr 0 0)], [(0, .var 35 [.d (I s.Low), .d (I s.High)])], 1, Fr.emp, [], 0⟩ (by kernel_rfl) ?_
 refine AW.sa fokW [9] ⟨[(4, .d (.bool ((decide (s.Low ≤ n)) && (decide (n ≤ s.High)))))], [], 1, Fr.emp, [], 0⟩ (by kernel_rfl) ?_
 obtain rfl := Option.some.inj h
 exact AW.ret (hR_0 _ (retX (.cons (.tmp rfl) .nil) (.refl _) rfl (by kernel_rfl) (by kernel_rfl)))
def g52 (n : Int) (m : Int) (most : Int) : Option Bool := (g50 (wr (n - m)) (wr (-most)) most).bind fun r0 => some r0
theorem k52 (n : Int) (m : Int) (most : Int) (r : Bool) (h : g52 n m most = some r) : SCall Tryd.prog Gs 52 [.d (I n), .d (I m), .d (I most)] [] 0 Fr.emp (.d (.bool r)) [] 0 Fr.emp := by
 unfold g52 at h
 refine SCall.mkK Tryd.func52 c52 rfl rfl (by kernel_rfl) (fun Q_0 hR_0 hN_0 => ?_)
 refine AW.sa fokW [] ⟨[(0, .d (I n)), (1, .d (I m)), (2, .d (I most))], [], 0, Fr.emp, [], 0⟩ (by kernel_rfl) ?_
 refine AW.srwK (fun Q_1 hQ_1 => ?_)
 refine RW.au fokW 6 [] ⟨[(9, .d (I (wr (n - m)))), (11, .d (I (wr (-most)))), (12, .d (I most))], [], 0, Fr.emp, [], 0⟩ (by kernel_rfl) ?_
 obtain ⟨r0, hx_2, h⟩ := bsome h
 refine RW.one fokW (r_call trivial rfl (k50 (wr (n - m)) (wr (-most)) most _ hx_2) rfl rfl (r_end ?_))
 refine RW.au fokW 1 [] ⟨[(6, .d (.bool r0))], [], 0, Fr.emp, [], 0⟩ (by kernel_rfl) ?_
 refine RW.nil ?_
 refine hQ_1 _ ?_
 obtain rfl := Option.some.inj h
 exact AW.ret (hR_0 _ (retX (.cons (.tmp rfl) .nil) (.refl _) rfl (by kernel_rfl) (by kernel_rfl)))
def g38_26 (t : HairBook) (o : (List Int)) (A : (Nat → Int)) : Int → HairHorse → Unit → Option (Ctl (Unit) (Bool)) := fun v3 p2 _ => bindC ((ixL o (wr (2 * v3))).bind fun p3 => (ixL o (wr ((wr (2 * v3)) + 1))).bind fun p4 => (g15 t v3 p3 p4).bind fun (r0_4, r1_5, r2_4) => (ixL t.Hanks p3).bind fun p5 => (g94 p5.Shade (wr ((A 1) + p3))).bind fun r0_5 => (ixL t.Hanks p4).bind fun p6 => (g94 p6.Shade (wr ((A 1) + p4))).bind fun r0_6 => (bif (decide (r2_4 ≠ 0)) then (some true) else ((g50 r0_4 0 t.Dark).bind fun r0_7 => bif (!r0_7) then (some true) else ((g50 r1_5 0 t.Dark).bind fun r0_8 => bif (!r0_8) then (some true) else ((g52 (wr (r0_5 + r0_4)) p2.Shade t.Near).bind fun r0_1_1 => bif (!r0_1_1) then (some true) else ((g52 (wr (r0_6 + r1_5)) p2.Shade t.Near).bind fun r0_1_2 => bif (!r0_1_2) then (some true) else ((g52 (wr (r0_5 + r0_4)) (wr (r0_6 + r1_5)) t.Match).bind fun r0_1_3 => some (!r0_1_3))))))).bind fun v4 => bif v4 then (some (.brk (.brk false))) else (some (.next ())) : Option (Ctl (Unit) (Ctl (Unit) (Bool)))) fun _ => some (.next ())
def g38_4 (t : HairBook) (o : (List Int)) (A : (Nat → Int)) (r0 : (List Int)) : Int → HairHank → Int → Option (Ctl (Int) (Bool)) := fun v1 p v => (g94 p.Weight (wr ((A 0) + v1))).bind fun r0_1 => (ixL r0 v1).bind fun p1 => (g21 t o v1).bind fun (r0_2, r1_4) => (bif ((decide (r1_4 ≠ 0)) || (decide ((wr (r0_1 - p1)) < 0))) then (some true) else ((g95 r0_2 (wr (r0_1 - p1))).bind fun r0_3 => some (!r0_3))).bind fun v2 => bif v2 then (some (.brk false)) else (bif (decide (0 < p1)) then (some (.next (wr (v + (wr (r0_1 - p1)))))) else (some (.next v)))
def g38 (t : HairBook) (o : (List Int)) (A : (Nat → Int)) : Option Bool := (g41 t o).bind fun r0 => bindC (eachC (g38_4 t o A r0) t.Hanks 0 0) fun v => bindC (eachC (g38_26 t o A) t.Horses 0 ()) fun _ => (g23 t o).bind fun (r0_2_1, r1_4_1) => (bif (decide (r1_4_1 = 0)) then ((g95 r0_2_1 v).bind fun r0_9 => some r0_9) else (some false)).bind fun v5 => some v5
theorem k38 (t : HairBook) (o : (List Int)) (A : (Nat → Int)) (r : Bool) (h : g38 t o A = some r) : SCall Tryd.prog Gs 38 [.agg (cv25 t), .d (.sl 1 (List.map e3 o)), .agg [.d (I (A 0)), .d (I (A 1))]] [] 0 Fr.emp (.d (.bool r)) [] 0 Fr.emp := by
 unfold g38 at h
 refine SCall.mkK Tryd.func38 c38 rfl rfl (by kernel_rfl) (fun Q_0 hR_0 hN_0 => ?_)
 refine AW.sa fokW [] ⟨[(1, .d (.sl 1 (List.map e3 o))), (3, .ptr 0 0), (5, .ptr 1 0)], [(1, .var 49 [.d (I (A 0)), .d (I (A 1))]), (0, .var 25 (cv25 t))], 2, Fr.emp, [], 0⟩ (by kernel_rfl) ?_
 refine AW.srwK (fun Q_1 hQ_1 => ?_)
 refine RW.au fokW 2 [] ⟨[(1, .d (.sl 1 (List.map e3 o))), (3, .ptr 0 0), (5, .ptr 1 0), (21, .agg (cv25 t)), (22, .d (.sl 1 (List.map e3 o)))], [(1, .var 49 [.d (I (A 0)), .d (I (A 1))]), (0, .var 25 (cv25 t))], 2, Fr.emp, [], 0⟩ (by kernel_rfl) ?_
 obtain ⟨r0, hx_2, h⟩ := bsome h
 refine RW.one fokW (r_call trivial rfl (k41 t o _ hx_2) rfl rfl (r_end ?_))
 refine RW.au fokW 2 [] ⟨[(1, .d (.sl 1 (List.map e3 o))), (3, .ptr 0 0), (5, .ptr 1 0), (7, .d (.sl 1 (List.map e3 r0))), (8, .d (I 0))], [(1, .var 49 [.d (I (A 0)), .d (I (A 1))]), (0, .var 25 (cv25 t))], 2, Fr.emp, [], 0⟩ (by kernel_rfl) ?_
 refine RW.nil ?_
 refine hQ_1 _ ?_
 refine AW.seqK (fun K_3 hK_3 => ?_)
 refine AW.sa fokW [] ⟨[(1, .d (.sl 1 (List.map e3 o))), (3, .ptr 0 0), (5, .ptr 1 0), (7, .d (.sl 1 (List.map e3 r0))), (8, .d (I 0)), (9, .d (I 0))], [(1, .var 49 [.d (I (A 0)), .d (I (A 1))]), (0, .var 25 (cv25 t))], 2, Fr.emp, [], 0⟩ (by kernel_rfl) ?_
 refine AW.block ?_
 refine AW.slh (r := 0) (off := 0) rfl rfl (fun hN_4 => ?_)
 rw [List.length_map] at hN_4
 obtain ⟨out_4, hx_4, hk_4⟩ := bsomeC h
 refine AW.evCK (fun (v1 : Int) (v : Int) => ⟨[(1, .d (.sl 1 (List.map e3 o))), (3, .ptr 0 0), (5, .ptr 1 0), (7, .d (.sl 1 (List.map e3 r0))), (8, .d (I v)), (9, .d (I v1))], [(1, .var 49 [.d (I (A 0)), .d (I (A 1))]), (0, .var 25 (cv25 t))], 2, Fr.emp, [], 0⟩) (g38_4 t o A r0) hx_4 (Can.kp (by kernel_rfl)) (fun v1 p v hi_4 hl_4 hp_4 c_4 h hb_4 K_4 hK_4 => ?_) (fun v1 v hi_4 hl_4 hout => ?_)
 ·unfold g38_4 at h
  refine AW.seqK (fun K_5 hK_5 => ?_)
  refine AW.srwK (fun Q_6 hQ_6 => ?_)
  refine RW.au fokW 3 [] ⟨[(1, .d (.sl 1 (List.map e3 o))), (3, .ptr 0 0), (5, .ptr 1 0), (7, .d (.sl 1 (List.map e3 r0))), (8, .d (I v)), (9, .d (I v1)), (24, .d (I v1)), (26, .d (.sl 4 (List.map e58 t.Hanks)))], [(1, .var 49 [.d (I (A 0)), .d (I (A 1))]), (0, .var 25 (cv25 t))], 2, Fr.emp, [], 0⟩ (by kernel_rfl) ?_
  refine RW.one fokW (r_lenX trivial rfl lenm (r_end ?_))
  refine RW.au fokW 1 [] ⟨[(1, .d (.sl 1 (List.map e3 o))), (3, .ptr 0 0), (5, .ptr 1 0), (7, .d (.sl 1 (List.map e3 r0))), (8, .d (I v)), (9, .d (I v1)), (28, .d (.bool (decide (v1 < (t.Hanks.length : Int)))))], [(1, .var 49 [.d (I (A 0)), .d (I (A 1))]), (0, .var 25 (cv25 t))], 2, Fr.emp, [], 0⟩ (by kernel_rfl) ?_
  refine RW.nil ?_
  refine hQ_6 _ ?_
  refine AW.cond rfl (fun hb_7 => ?_) (fun hb_7 => False.elim (by have := of_decide_eq_false hb_7; omega))
  refine AW.skip ?_
  refine hK_5 _ ?_
  refine AW.seqK (fun K_8 hK_8 => ?_)
  refine AW.block ?_
  refine AW.sdrwK fokW (fun Q_9 hQ_9 => ?_)
  refine RunC.auX 3 ⟨[(1, .d (.sl 1 (List.map e3 o))), (3, .ptr 0 0), (5, .ptr 1 0), (7, .d (.sl 1 (List.map e3 r0))), (8, .d (I v)), (9, .d (I v1)), (32, .d (.sl 4 (List.map e58 t.Hanks))), (33, .d (I v1))], [(1, .var 49 [.d (I (A 0)), .d (I (A 1))]), (0, .var 25 (cv25 t))], 2, Fr.emp, [], 0⟩ (by kernel_rfl) ?_
  refine r_iaD trivial rfl rfl hi_4 (row := e58 p) (mapget hp_4) ?_
  refine RunC.auX 6 ⟨[(1, .d (.sl 1 (List.map e3 o))), (3, .ptr 0 0), (5, .ptr 1 0), (7, .d (.sl 1 (List.map e3 r0))), (8, .d (I v)), (9, .d (I v1)), (36, .agg [.d (I p.Weight.Low), .d (I p.Weight.High)]), (40, .d (I (wr ((A 0) + v1))))], [(1, .var 49 [.d (I (A 0)), .d (I (A 1))]), (0, .var 25 (cv25 t))], 2, Fr.emp, [], 0⟩ (by kernel_rfl) ?_
  obtain ⟨r0_1, hx_10, h⟩ := bsome h
  refine r_call trivial rfl (k94 p.Weight (wr ((A 0) + v1)) _ hx_10) rfl rfl ?_
  refine RunC.auX 2 ⟨[(1, .d (.sl 1 (List.map e3 o))), (3, .ptr 0 0), (5, .ptr 1 0), (7, .d (.sl 1 (List.map e3 r0))), (8, .d (I v)), (9, .d (I v1)), (41, .d (I r0_1)), (42, .d (.sl 1 (List.map e3 r0))), (43, .d (I v1))], [(1, .var 49 [.d (I (A 0)), .d (I (A 1))]), (0, .var 25 (cv25 t))], 2, Fr.emp, [], 0⟩ (by kernel_rfl) ?_
  obtain ⟨p1, hv_11, h⟩ := bsome h
  refine r_iaD trivial rfl rfl (ixL_ok hv_11).1 (row := e3 p1) (mapget (ixL_ok hv_11).2) ?_
  refine RunC.auX 3 ⟨[(1, .d (.sl 1 (List.map e3 o))), (3, .ptr 0 0), (5, .ptr 1 0), (7, .d (.sl 1 (List.map e3 r0))), (8, .d (I v)), (9, .d (I v1)), (10, .d (I (wr (r0_1 - p1))))], [(1, .var 49 [.d (I (A 0)), .d (I (A 1))]), (0, .var 25 (cv25 t))], 2, Fr.emp, [], 0⟩ (by kernel_rfl) ?_
  refine RunC.fin ⟨[(1, .d (.sl 1 (List.map e3 o))), (3, .ptr 0 0), (5, .ptr 1 0), (7, .d (.sl 1 (List.map e3 r0))), (8, .d (I v)), (9, .d (I v1)), (10, .d (I (wr (r0_1 - p1))))], [(1, .var 49 [.d (I (A 0)), .d (I (A 1))]), (0, .var 25 (cv25 t))], 2, Fr.emp, [], 0⟩ (by kernel_rfl) (by kernel_rfl) ?_
  refine hQ_9 _ ?_
  refine AW.srwK (fun Q_12 hQ_12 => ?_)
  refine RW.au fokW 3 [] ⟨[(1, .d (.sl 1 (List.map e3 o))), (3, .ptr 0 0), (5, .ptr 1 0), (7, .d (.sl 1 (List.map e3 r0))), (8, .d (I v)), (9, .d (I v1)), (10, .d (I (wr (r0_1 - p1)))), (48, .agg (cv25 t)), (49, .d (.sl 1 (List.map e3 o))), (50, .d (I v1))], [(1, .var 49 [.d (I (A 0)), .d (I (A 1))]), (0, .var 25 (cv25 t))], 2, Fr.emp, [], 0⟩ (by kernel_rfl) ?_
  obtain ⟨⟨r0_2, r1_4⟩, hx_13, h⟩ := bsome h
  refine RW.one fokW (r_call trivial rfl (k21 t o v1 _ hx_13) rfl rfl (r_end ?_))
  refine RW.au fokW 6 [] ⟨[(1, .d (.sl 1 (List.map e3 o))), (3, .ptr 0 0), (5, .ptr 1 0), (7, .d (.sl 1 (List.map e3 r0))), (8, .d (I v)), (9, .d (I v1)), (10, .d (I (wr (r0_1 - p1)))), (11, .ptr 2 0), (12, .d (I r1_4))], [(2, .var 35 [.d (I r0_2.Low), .d (I r0_2.High)]), (1, .var 49 [.d (I (A 0)), .d (I (A 1))]), (0, .var 25 (cv25 t))], 3, Fr.emp, [], 0⟩ (by kernel_rfl) ?_
  refine RW.nil ?_
  refine hQ_12 _ ?_
  refine AW.seqK (fun K_14 hK_14 => ?_)
  refine AW.srwK (fun Q_15 hQ_15 => ?_)
  refine RW.au fokW 7 [56] ⟨[(1, .d (.sl 1 (List.map e3 o))), (3, .ptr 0 0), (5, .ptr 1 0), (7, .d (.sl 1 (List.map e3 r0))), (8, .d (I v)), (9, .d (I v1)), (10, .d (I (wr (r0_1 - p1)))), (11, .ptr 2 0), (60, .d (.bool ((decide (r1_4 ≠ 0)) || (decide ((wr (r0_1 - p1)) < 0)))))], [(2, .var 35 [.d (I r0_2.Low), .d (I r0_2.High)]), (1, .var 49 [.d (I (A 0)), .d (I (A 1))]), (0, .var 25 (cv25 t))], 3, Fr.emp, [], 0⟩ (by kernel_rfl) ?_
  obtain ⟨v2, hx_16, h⟩ := bsome h
  refine RW.cut fokW 5 (⟨[(1, .d (.sl 1 (List.map e3 o))), (3, .ptr 0 0), (5, .ptr 1 0), (7, .d (.sl 1 (List.map e3 r0))), (8, .d (I v)), (9, .d (I v1)), (10, .d (I (wr (r0_1 - p1)))), (65, .d (.bool v2))], [(1, .var 49 [.d (I (A 0)), .d (I (A 1))]), (0, .var 25 (cv25 t))], 3, Fr.emp, [], 0⟩) ?_ ?_
  ·refine r_split 60 rfl (fun hb_18 => ?_) (fun hb_18 => ?_)
   ·have h := ifT hb_18 hx_16
    refine RunC.auX 5 ⟨[(1, .d (.sl 1 (List.map e3 o))), (3, .ptr 0 0), (5, .ptr 1 0), (7, .d (.sl 1 (List.map e3 r0))), (8, .d (I v)), (9, .d (I v1)), (10, .d (I (wr (r0_1 - p1)))), (65, .d (.bool true))], [(2, .var 35 [.d (I r0_2.Low), .d (I r0_2.High)]), (1, .var 49 [.d (I (A 0)), .d (I (A 1))]), (0, .var 25 (cv25 t))], 3, Fr.emp, [], 0⟩ (by kernel_rfl) ?_
    obtain rfl := Option.some.inj h
    refine RunC.finJ (Can.kp (by kernel_rfl))
   ·have h := ifF hb_18 hx_16
    refine RunC.auX 2 ⟨[(1, .d (.sl 1 (List.map e3 o))), (3, .ptr 0 0), (5, .ptr 1 0), (7, .d (.sl 1 (List.map e3 r0))), (8, .d (I v)), (9, .d (I v1)), (10, .d (I (wr (r0_1 - p1)))), (60, .d (.bool false)), (61, .agg [.d (I r0_2.Low), .d (I r0_2.High)]), (62, .d (I (wr (r0_1 - p1))))], [(2, .var 35 [.d (I r0_2.Low), .d (I r0_2.High)]), (1, .var 49 [.d (I (A 0)), .d (I (A 1))]), (0, .var 25 (cv25 t))], 3, Fr.emp, [], 0⟩ (by kernel_rfl) ?_
    obtain ⟨r0_3, hx_17, h⟩ := bsome h
    refine r_call rfl rfl (k95 r0_2 (wr (r0_1 - p1)) _ hx_17) rfl rfl ?_
    refine RunC.auX 2 ⟨[(1, .d (.sl 1 (List.map e3 o))), (3, .ptr 0 0), (5, .ptr 1 0), (7, .d (.sl 1 (List.map e3 r0))), (8, .d (I v)), (9, .d (I v1)), (10, .d (I (wr (r0_1 - p1)))), (65, .d (.bool (!r0_3)))], [(2, .var 35 [.d (I r0_2.Low), .d (I r0_2.High)]), (1, .var 49 [.d (I (A 0)), .d (I (A 1))]), (0, .var 25 (cv25 t))], 3, Fr.emp, [], 0⟩ (by kernel_rfl) ?_
    obtain rfl := Option.some.inj h
    refine RunC.finJ (Can.kp (by kernel_rfl))
  ·refine RW.nil ?_
   refine hQ_15 _ ?_
   refine AW.cond rfl (fun hb_19 => ?_) (fun hb_19 => ?_)
   ·have h := ifT hb_19 h
    refine AW.sa fokW [] ⟨[(6, .d (.bool false))], [], 3, Fr.emp, [], 0⟩ (by kernel_rfl) ?_
    obtain rfl := Option.some.inj h
    have e_1 := hb_4 _ rfl
    subst e_1
    obtain rfl := Aft.bk hk_4
    exact AW.ret (hR_0 _ (retX (.cons (.tmp rfl) .nil) (.refl _) rfl (by kernel_rfl) (by kernel_rfl)))
   ·have h := ifF hb_19 h
    refine AW.skip ?_
    refine hK_14 _ ?_
    refine AW.srwK (fun Q_20 hQ_20 => ?_)
    refine RW.au fokW 2 [] ⟨[(1, .d (.sl 1 (List.map e3 o))), (3, .ptr 0 0), (5, .ptr 1 0), (7, .d (.sl 1 (List.map e3 r0))), (8, .d (I v)), (9, .d (I v1)), (10, .d (I (wr (r0_1 - p1)))), (66, .d (.sl 1 (List.map e3 r0))), (67, .d (I v1))], [(1, .var 49 [.d (I (A 0)), .d (I (A 1))]), (0, .var 25 (cv25 t))], 3, Fr.emp, [], 0⟩ (by kernel_rfl) ?_
    refine RW.one fokW (r_iaD trivial rfl rfl (ixL_ok hv_11).1 (row := e3 p1) (mapget (ixL_ok hv_11).2) (r_end ?_))
    refine RW.au fokW 2 [] ⟨[(1, .d (.sl 1 (List.map e3 o))), (3, .ptr 0 0), (5, .ptr 1 0), (7, .d (.sl 1 (List.map e3 r0))), (8, .d (I v)), (9, .d (I v1)), (10, .d (I (wr (r0_1 - p1)))), (70, .d (.bool (decide (0 < p1))))], [(1, .var 49 [.d (I (A 0)), .d (I (A 1))]), (0, .var 25 (cv25 t))], 3, Fr.emp, [], 0⟩ (by kernel_rfl) ?_
    refine RW.nil ?_
    refine hQ_20 _ ?_
    refine AW.cond rfl (fun hb_21 => ?_) (fun hb_21 => ?_)
    ·have h := ifT hb_21 h
     refine AW.ra fokW [] ⟨[(1, .d (.sl 1 (List.map e3 o))), (3, .ptr 0 0), (5, .ptr 1 0), (7, .d (.sl 1 (List.map e3 r0))), (8, .d (I (wr (v + (wr (r0_1 - p1)))))), (9, .d (I v1))], [(1, .var 49 [.d (I (A 0)), .d (I (A 1))]), (0, .var 25 (cv25 t))], 3, Fr.emp, [], 0⟩ (by kernel_rfl) ?_
     refine hK_8 _ ?_
     refine AW.ra fokW [] ⟨[(1, .d (.sl 1 (List.map e3 o))), (3, .ptr 0 0), (5, .ptr 1 0), (7, .d (.sl 1 (List.map e3 r0))), (8, .d (I (wr (v + (wr (r0_1 - p1)))))), (9, .d (I (wr (v1 + 1))))], [(1, .var 49 [.d (I (A 0)), .d (I (A 1))]), (0, .var 25 (cv25 t))], 3, Fr.emp, [], 0⟩ (by kernel_rfl) ?_
     obtain rfl := Option.some.inj h
     have ew : wr (v1 + 1) = v1 + 1 := inext (N := (t.Hanks.length : Int)) (by omega) (by omega) (by omega)
     rw [ew]
     exact hK_4 _ _ rfl (Can.kp (by kernel_rfl))
    ·have h := ifF hb_21 h
     refine AW.skip ?_
     refine hK_8 _ ?_
     refine AW.ra fokW [] ⟨[(1, .d (.sl 1 (List.map e3 o))), (3, .ptr 0 0), (5, .ptr 1 0), (7, .d (.sl 1 (List.map e3 r0))), (8, .d (I v)), (9, .d (I (wr (v1 + 1))))], [(1, .var 49 [.d (I (A 0)), .d (I (A 1))]), (0, .var 25 (cv25 t))], 3, Fr.emp, [], 0⟩ (by kernel_rfl) ?_
     obtain rfl := Option.some.inj h
     have ew : wr (v1 + 1) = v1 + 1 := inext (N := (t.Hanks.length : Int)) (by omega) (by omega) (by omega)
     rw [ew]
     exact hK_4 _ _ rfl (Can.kp (by kernel_rfl))
 ·subst hout
  have h := Aft.nx hk_4
  refine AW.seqK (fun K_22 hK_22 => ?_)
  refine AW.srwK (fun Q_23 hQ_23 => ?_)
  refine RW.au fokW 3 [] ⟨[(1, .d (.sl 1 (List.map e3 o))), (3, .ptr 0 0), (5, .ptr 1 0), (7, .d (.sl 1 (List.map e3 r0))), (8, .d (I v)), (9, .d (I v1)), (24, .d (I v1)), (26, .d (.sl 4 (List.map e58 t.Hanks)))], [(1, .var 49 [.d (I (A 0)), .d (I (A 1))]), (0, .var 25 (cv25 t))], 2, Fr.emp, [], 0⟩ (by kernel_rfl) ?_
  refine RW.one fokW (r_lenX trivial rfl lenm (r_end ?_))
  refine RW.au fokW 1 [] ⟨[(1, .d (.sl 1 (List.map e3 o))), (3, .ptr 0 0), (5, .ptr 1 0), (7, .d (.sl 1 (List.map e3 r0))), (8, .d (I v)), (9, .d (I v1)), (28, .d (.bool (decide (v1 < (t.Hanks.length : Int)))))], [(1, .var 49 [.d (I (A 0)), .d (I (A 1))]), (0, .var 25 (cv25 t))], 2, Fr.emp, [], 0⟩ (by kernel_rfl) ?_
  refine RW.nil ?_
  refine hQ_23 _ ?_
  refine AW.cond rfl (fun hb_24 => False.elim (by have := of_decide_eq_true hb_24; omega)) (fun hb_24 => ?_)
  refine AW.exit ?_
  refine hK_3 _ ?_
  refine AW.seqK (fun K_25 hK_25 => ?_)
  refine AW.sa fokW [] ⟨[(1, .d (.sl 1 (List.map e3 o))), (3, .ptr 0 0), (5, .ptr 1 0), (8, .d (I v)), (13, .d (I 0))], [(1, .var 49 [.d (I (A 0)), .d (I (A 1))]), (0, .var 25 (cv25 t))], 2, Fr.emp, [], 0⟩ (by kernel_rfl) ?_
  refine AW.block ?_
  refine AW.slh (r := 0) (off := 1) rfl rfl (fun hN_26 => ?_)
  rw [List.length_map] at hN_26
  obtain ⟨out_26, hx_26, hk_26⟩ := bsomeC h
  refine AW.evCK (fun (v3 : Int) (_ : Unit) => ⟨[(1, .d (.sl 1 (List.map e3 o))), (3, .ptr 0 0), (5, .ptr 1 0), (8, .d (I v)), (13, .d (I v3))], [(1, .var 49 [.d (I (A 0)), .d (I (A 1))]), (0, .var 25 (cv25 t))], 2, Fr.emp, [], 0⟩) (g38_26 t o A) hx_26 (Can.kp (by kernel_rfl)) (fun v3 p2 s_26 hi_26 hl_26 hp_26 c_26 h hb_26 K_26 hK_26 => ?_) (fun v3 s_26 hi_26 hl_26 hout => ?_)
  ·unfold g38_26 at h
   refine AW.seqK (fun K_27 hK_27 => ?_)
   refine AW.srwK (fun Q_28 hQ_28 => ?_)
   refine RW.au fokW 3 [] ⟨[(1, .d (.sl 1 (List.map e3 o))), (3, .ptr 0 0), (5, .ptr 1 0), (8, .d (I v)), (13, .d (I v3)), (74, .d (I v3)), (76, .d (.sl 3 (List.map e69 t.Horses)))], [(1, .var 49 [.d (I (A 0)), .d (I (A 1))]), (0, .var 25 (cv25 t))], 2, Fr.emp, [], 0⟩ (by kernel_rfl) ?_
   refine RW.one fokW (r_lenX trivial rfl lenm (r_end ?_))
   refine RW.au fokW 1 [] ⟨[(1, .d (.sl 1 (List.map e3 o))), (3, .ptr 0 0), (5, .ptr 1 0), (8, .d (I v)), (13, .d (I v3)), (78, .d (.bool (decide (v3 < (t.Horses.length : Int)))))], [(1, .var 49 [.d (I (A 0)), .d (I (A 1))]), (0, .var 25 (cv25 t))], 2, Fr.emp, [], 0⟩ (by kernel_rfl) ?_
   refine RW.nil ?_
   refine hQ_28 _ ?_
   refine AW.cond rfl (fun hb_29 => ?_) (fun hb_29 => False.elim (by have := of_decide_eq_false hb_29; omega))
   refine AW.skip ?_
   refine hK_27 _ ?_
   obtain ⟨c_30, hx_30, hk_30⟩ := bsomeC h
   refine AW.jnK (fun (_ : Unit) => ⟨[(1, .d (.sl 1 (List.map e3 o))), (3, .ptr 0 0), (5, .ptr 1 0), (8, .d (I v)), (13, .d (I v3))], [(1, .var 49 [.d (I (A 0)), .d (I (A 1))]), (0, .var 25 (cv25 t))], 2, Fr.emp, [], 0⟩) (c := c_30) (fun K_30 hK_30 => ?_) (fun j_30 hj_30 => ?_)
   ·have h := hx_30
    refine AW.block ?_
    refine AW.sdrwK fokW (fun Q_31 hQ_31 => ?_)
    refine RunC.auX 5 ⟨[(1, .d (.sl 1 (List.map e3 o))), (3, .ptr 0 0), (5, .ptr 1 0), (8, .d (I v)), (13, .d (I v3)), (82, .agg (cv25 t)), (83, .d (I v3)), (84, .d (.sl 1 (List.map e3 o))), (86, .d (I (wr (2 * v3))))], [(1, .var 49 [.d (I (A 0)), .d (I (A 1))]), (0, .var 25 (cv25 t))], 2, Fr.emp, [], 0⟩ (by kernel_rfl) ?_
    obtain ⟨p3, hv_32, h⟩ := bsome h
    refine r_iaD trivial rfl rfl (ixL_ok hv_32).1 (row := e3 p3) (mapget (ixL_ok hv_32).2) ?_
    refine RunC.auX 5 ⟨[(1, .d (.sl 1 (List.map e3 o))), (3, .ptr 0 0), (5, .ptr 1 0), (8, .d (I v)), (13, .d (I v3)), (82, .agg (cv25 t)), (83, .d (I v3)), (88, .d (I p3)), (89, .d (.sl 1 (List.map e3 o))), (92, .d (I (wr ((wr (2 * v3)) + 1))))], [(1, .var 49 [.d (I (A 0)), .d (I (A 1))]), (0, .var 25 (cv25 t))], 2, Fr.emp, [], 0⟩ (by kernel_rfl) ?_
    obtain ⟨p4, hv_33, h⟩ := bsome h
    refine r_iaD trivial rfl rfl (ixL_ok hv_33).1 (row := e3 p4) (mapget (ixL_ok hv_33).2) ?_
    refine RunC.auX 1 ⟨[(1, .d (.sl 1 (List.map e3 o))), (3, .ptr 0 0), (5, .ptr 1 0), (8, .d (I v)), (13, .d (I v3)), (82, .agg (cv25 t)), (83, .d (I v3)), (88, .d (I p3)), (94, .d (I p4))], [(1, .var 49 [.d (I (A 0)), .d (I (A 1))]), (0, .var 25 (cv25 t))], 2, Fr.emp, [], 0⟩ (by kernel_rfl) ?_
    obtain ⟨⟨r0_4, r1_5, r2_4⟩, hx_34, h⟩ := bsome h
    refine r_call trivial rfl (k15 t v3 p3 p4 _ hx_34) rfl rfl ?_
    refine RunC.auX 7 ⟨[(1, .d (.sl 1 (List.map e3 o))), (3, .ptr 0 0), (5, .ptr 1 0), (8, .d (I v)), (13, .d (I v3)), (14, .d (I r0_4)), (15, .d (I r1_5)), (16, .d (I r2_4))], [(1, .var 49 [.d (I (A 0)), .d (I (A 1))]), (0, .var 25 (cv25 t))], 2, Fr.emp, [], 0⟩ (by kernel_rfl) ?_
    refine RunC.fin ⟨[(1, .d (.sl 1 (List.map e3 o))), (3, .ptr 0 0), (5, .ptr 1 0), (8, .d (I v)), (13, .d (I v3)), (14, .d (I r0_4)), (15, .d (I r1_5)), (16, .d (I r2_4))], [(1, .var 49 [.d (I (A 0)), .d (I (A 1))]), (0, .var 25 (cv25 t))], 2, Fr.emp, [], 0⟩ (by kernel_rfl) (by kernel_rfl) ?_
    refine hQ_31 _ ?_
    refine AW.sdrwK fokW (fun Q_35 hQ_35 => ?_)
    refine RunC.auX 5 ⟨[(1, .d (.sl 1 (List.map e3 o))), (3, .ptr 0 0), (5, .ptr 1 0), (8, .d (I v)), (13, .d (I v3)), (14, .d (I r0_4)), (15, .d (I r1_5)), (16, .d (I r2_4)), (100, .d (.sl 4 (List.map e58 t.Hanks))), (101, .d (.sl 1 (List.map e3 o))), (103, .d (I (wr (2 * v3))))], [(1, .var 49 [.d (I (A 0)), .d (I (A 1))]), (0, .var 25 (cv25 t))], 2, Fr.emp, [], 0⟩ (by kernel_rfl) ?_
    refine r_iaD trivial rfl rfl (ixL_ok hv_32).1 (row := e3 p3) (mapget (ixL_ok hv_32).2) ?_
    refine RunC.auX 1 ⟨[(1, .d (.sl 1 (List.map e3 o))), (3, .ptr 0 0), (5, .ptr 1 0), (8, .d (I v)), (13, .d (I v3)), (14, .d (I r0_4)), (15, .d (I r1_5)), (16, .d (I r2_4)), (100, .d (.sl 4 (List.map e58 t.Hanks))), (105, .d (I p3))], [(1, .var 49 [.d (I (A 0)), .d (I (A 1))]), (0, .var 25 (cv25 t))], 2, Fr.emp, [], 0⟩ (by kernel_rfl) ?_
    obtain ⟨p5, hv_36, h⟩ := bsome h
    refine r_iaD trivial rfl rfl (ixL_ok hv_36).1 (row := e58 p5) (mapget (ixL_ok hv_36).2) ?_
    refine RunC.auX 7 ⟨[(1, .d (.sl 1 (List.map e3 o))), (3, .ptr 0 0), (5, .ptr 1 0), (8, .d (I v)), (13, .d (I v3)), (14, .d (I r0_4)), (15, .d (I r1_5)), (16, .d (I r2_4)), (108, .agg [.d (I p5.Shade.Low), .d (I p5.Shade.High)]), (110, .d (I (A 1))), (111, .d (.sl 1 (List.map e3 o))), (113, .d (I (wr (2 * v3))))], [(1, .var 49 [.d (I (A 0)), .d (I (A 1))]), (0, .var 25 (cv25 t))], 2, Fr.emp, [], 0⟩ (by kernel_rfl) ?_
    refine r_iaD trivial rfl rfl (ixL_ok hv_32).1 (row := e3 p3) (mapget (ixL_ok hv_32).2) ?_
    refine RunC.auX 2 ⟨[(1, .d (.sl 1 (List.map e3 o))), (3, .ptr 0 0), (5, .ptr 1 0), (8, .d (I v)), (13, .d (I v3)), (14, .d (I r0_4)), (15, .d (I r1_5)), (16, .d (I r2_4)), (108, .agg [.d (I p5.Shade.Low), .d (I p5.Shade.High)]), (116, .d (I (wr ((A 1) + p3))))], [(1, .var 49 [.d (I (A 0)), .d (I (A 1))]), (0, .var 25 (cv25 t))], 2, Fr.emp, [], 0⟩ (by kernel_rfl) ?_
    obtain ⟨r0_5, hx_37, h⟩ := bsome h
    refine r_call trivial rfl (k94 p5.Shade (wr ((A 1) + p3)) _ hx_37) rfl rfl ?_
    refine RunC.auX 3 ⟨[(1, .d (.sl 1 (List.map e3 o))), (3, .ptr 0 0), (5, .ptr 1 0), (8, .d (I v)), (13, .d (I v3)), (14, .d (I r0_4)), (15, .d (I r1_5)), (16, .d (I r2_4)), (17, .d (I (wr (r0_5 + r0_4))))], [(1, .var 49 [.d (I (A 0)), .d (I (A 1))]), (0, .var 25 (cv25 t))], 2, Fr.emp, [], 0⟩ (by kernel_rfl) ?_
    refine RunC.fin ⟨[(1, .d (.sl 1 (List.map e3 o))), (3, .ptr 0 0), (5, .ptr 1 0), (8, .d (I v)), (13, .d (I v3)), (14, .d (I r0_4)), (15, .d (I r1_5)), (16, .d (I r2_4)), (17, .d (I (wr (r0_5 + r0_4))))], [(1, .var 49 [.d (I (A 0)), .d (I (A 1))]), (0, .var 25 (cv25 t))], 2, Fr.emp, [], 0⟩ (by kernel_rfl) (by kernel_rfl) ?_
    refine hQ_35 _ ?_
    refine AW.sdrwK fokW (fun Q_38 hQ_38 => ?_)
    refine RunC.auX 6 ⟨[(1, .d (.sl 1 (List.map e3 o))), (3, .ptr 0 0), (5, .ptr 1 0), (8, .d (I v)), (13, .d (I v3)), (14, .d (I r0_4)), (15, .d (I r1_5)), (16, .d (I r2_4)), (17, .d (I (wr (r0_5 + r0_4)))), (121, .d (.sl 4 (List.map e58 t.Hanks))), (122, .d (.sl 1 (List.map e3 o))), (125, .d (I (wr ((wr (2 * v3)) + 1))))], [(1, .var 49 [.d (I (A 0)), .d (I (A 1))]), (0, .var 25 (cv25 t))], 2, Fr.emp, [], 0⟩ (by kernel_rfl) ?_
    refine r_iaD trivial rfl rfl (ixL_ok hv_33).1 (row := e3 p4) (mapget (ixL_ok hv_33).2) ?_
    refine RunC.auX 1 ⟨[(1, .d (.sl 1 (List.map e3 o))), (3, .ptr 0 0), (5, .ptr 1 0), (8, .d (I v)), (13, .d (I v3)), (14, .d (I r0_4)), (15, .d (I r1_5)), (16, .d (I r2_4)), (17, .d (I (wr (r0_5 + r0_4)))), (121, .d (.sl 4 (List.map e58 t.Hanks))), (127, .d (I p4))], [(1, .var 49 [.d (I (A 0)), .d (I (A 1))]), (0, .var 25 (cv25 t))], 2, Fr.emp, [], 0⟩ (by kernel_rfl) ?_
    obtain ⟨p6, hv_39, h⟩ := bsome h
    refine r_iaD trivial rfl rfl (ixL_ok hv_39).1 (row := e58 p6) (mapget (ixL_ok hv_39).2) ?_
    refine RunC.auX 8 ⟨[(1, .d (.sl 1 (List.map e3 o))), (3, .ptr 0 0), (5, .ptr 1 0), (8, .d (I v)), (13, .d (I v3)), (14, .d (I r0_4)), (15, .d (I r1_5)), (16, .d (I r2_4)), (17, .d (I (wr (r0_5 + r0_4)))), (130, .agg [.d (I p6.Shade.Low), .d (I p6.Shade.High)]), (132, .d (I (A 1))), (133, .d (.sl 1 (List.map e3 o))), (136, .d (I (wr ((wr (2 * v3)) + 1))))], [(1, .var 49 [.d (I (A 0)), .d (I (A 1))]), (0, .var 25 (cv25 t))], 2, Fr.emp, [], 0⟩ (by kernel_rfl) ?_
    refine r_iaD trivial rfl rfl (ixL_ok hv_33).1 (row := e3 p4) (mapget (ixL_ok hv_33).2) ?_
    refine RunC.auX 2 ⟨[(1, .d (.sl 1 (List.map e3 o))), (3, .ptr 0 0), (5, .ptr 1 0), (8, .d (I v)), (13, .d (I v3)), (14, .d (I r0_4)), (15, .d (I r1_5)), (16, .d (I r2_4)), (17, .d (I (wr (r0_5 + r0_4)))), (130, .agg [.d (I p6.Shade.Low), .d (I p6.Shade.High)]), (139, .d (I (wr ((A 1) + p4))))], [(1, .var 49 [.d (I (A 0)), .d (I (A 1))]), (0, .var 25 (cv25 t))], 2, Fr.emp, [], 0⟩ (by kernel_rfl) ?_
    obtain ⟨r0_6, hx_40, h⟩ := bsome h
    refine r_call trivial rfl (k94 p6.Shade (wr ((A 1) + p4)) _ hx_40) rfl rfl ?_
    refine RunC.auX 3 ⟨[(1, .d (.sl 1 (List.map e3 o))), (3, .ptr 0 0), (5, .ptr 1 0), (8, .d (I v)), (13, .d (I v3)), (14, .d (I r0_4)), (15, .d (I r1_5)), (16, .d (I r2_4)), (17, .d (I (wr (r0_5 + r0_4)))), (18, .d (I (wr (r0_6 + r1_5))))], [(1, .var 49 [.d (I (A 0)), .d (I (A 1))]), (0, .var 25 (cv25 t))], 2, Fr.emp, [], 0⟩ (by kernel_rfl) ?_
    refine RunC.fin ⟨[(1, .d (.sl 1 (List.map e3 o))), (3, .ptr 0 0), (5, .ptr 1 0), (8, .d (I v)), (13, .d (I v3)), (14, .d (I r0_4)), (15, .d (I r1_5)), (16, .d (I r2_4)), (17, .d (I (wr (r0_5 + r0_4)))), (18, .d (I (wr (r0_6 + r1_5))))], [(1, .var 49 [.d (I (A 0)), .d (I (A 1))]), (0, .var 25 (cv25 t))], 2, Fr.emp, [], 0⟩ (by kernel_rfl) (by kernel_rfl) ?_
    refine hQ_38 _ ?_
    obtain ⟨v4, hx_41, h⟩ := bsome h
    refine AW.jnSK (fun (v4 : Bool) => ⟨[(1, .d (.sl 1 (List.map e3 o))), (3, .ptr 0 0), (5, .ptr 1 0), (8, .d (I v)), (13, .d (I v3)), (192, .d (.bool v4))], [(1, .var 49 [.d (I (A 0)), .d (I (A 1))]), (0, .var 25 (cv25 t))], 2, Fr.emp, [], 0⟩) (c := v4) (fun K_41 hK_41 => ?_) ?_
    ·have h := hx_41
     refine AW.drw fokW ?_
     refine RunC.auX 3 ⟨[(1, .d (.sl 1 (List.map e3 o))), (3, .ptr 0 0), (5, .ptr 1 0), (8, .d (I v)), (13, .d (I v3)), (14, .d (I r0_4)), (15, .d (I r1_5)), (17, .d (I (wr (r0_5 + r0_4)))), (18, .d (I (wr (r0_6 + r1_5)))), (145, .d (.bool (decide (r2_4 ≠ 0))))], [(1, .var 49 [.d (I (A 0)), .d (I (A 1))]), (0, .var 25 (cv25 t))], 2, Fr.emp, [], 0⟩ (by kernel_rfl) ?_
     refine r_split 145 rfl (fun hb_43 => ?_) (fun hb_43 => ?_)
     ·have h := ifT hb_43 h
      refine RunC.auX 47 ⟨[(1, .d (.sl 1 (List.map e3 o))), (3, .ptr 0 0), (5, .ptr 1 0), (8, .d (I v)), (13, .d (I v3)), (192, .d (.bool true))], [(1, .var 49 [.d (I (A 0)), .d (I (A 1))]), (0, .var 25 (cv25 t))], 2, Fr.emp, [], 0⟩ (by kernel_rfl) ?_
      refine RunC.fin ⟨[(1, .d (.sl 1 (List.map e3 o))), (3, .ptr 0 0), (5, .ptr 1 0), (8, .d (I v)), (13, .d (I v3)), (192, .d (.bool true))], [(1, .var 49 [.d (I (A 0)), .d (I (A 1))]), (0, .var 25 (cv25 t))], 2, Fr.emp, [], 0⟩ (by kernel_rfl) (by kernel_rfl) ?_
      obtain rfl := Option.some.inj h
      exact hK_41 _ (Can.kp (by kernel_rfl))
     ·have h := ifF hb_43 h
      refine RunC.auX 3 ⟨[(1, .d (.sl 1 (List.map e3 o))), (3, .ptr 0 0), (5, .ptr 1 0), (8, .d (I v)), (13, .d (I v3)), (15, .d (I r1_5)), (17, .d (I (wr (r0_5 + r0_4)))), (18, .d (I (wr (r0_6 + r1_5)))), (145, .d (.bool false)), (146, .d (I r0_4)), (148, .d (I t.Dark))], [(1, .var 49 [.d (I (A 0)), .d (I (A 1))]), (0, .var 25 (cv25 t))], 2, Fr.emp, [], 0⟩ (by kernel_rfl) ?_
      obtain ⟨r0_7, hx_44, h⟩ := bsome h
      refine r_call rfl rfl (k50 r0_4 0 t.Dark _ hx_44) rfl rfl ?_
      refine RunC.auX 3 ⟨[(1, .d (.sl 1 (List.map e3 o))), (3, .ptr 0 0), (5, .ptr 1 0), (8, .d (I v)), (13, .d (I v3)), (15, .d (I r1_5)), (17, .d (I (wr (r0_5 + r0_4)))), (18, .d (I (wr (r0_6 + r1_5)))), (152, .d (.bool (!r0_7)))], [(1, .var 49 [.d (I (A 0)), .d (I (A 1))]), (0, .var 25 (cv25 t))], 2, Fr.emp, [], 0⟩ (by kernel_rfl) ?_
      refine r_split 152 rfl (fun hb_45 => ?_) (fun hb_45 => ?_)
      ·have h := ifT hb_45 h
       refine RunC.auX 40 ⟨[(1, .d (.sl 1 (List.map e3 o))), (3, .ptr 0 0), (5, .ptr 1 0), (8, .d (I v)), (13, .d (I v3)), (192, .d (.bool true))], [(1, .var 49 [.d (I (A 0)), .d (I (A 1))]), (0, .var 25 (cv25 t))], 2, Fr.emp, [], 0⟩ (by kernel_rfl) ?_
       refine RunC.fin ⟨[(1, .d (.sl 1 (List.map e3 o))), (3, .ptr 0 0), (5, .ptr 1 0), (8, .d (I v)), (13, .d (I v3)), (192, .d (.bool true))], [(1, .var 49 [.d (I (A 0)), .d (I (A 1))]), (0, .var 25 (cv25 t))], 2, Fr.emp, [], 0⟩ (by kernel_rfl) (by kernel_rfl) ?_
       obtain rfl := Option.some.inj h
       exact hK_41 _ (Can.kp (by kernel_rfl))
      ·have h := ifF hb_45 h
       refine RunC.auX 3 ⟨[(1, .d (.sl 1 (List.map e3 o))), (3, .ptr 0 0), (5, .ptr 1 0), (8, .d (I v)), (13, .d (I v3)), (17, .d (I (wr (r0_5 + r0_4)))), (18, .d (I (wr (r0_6 + r1_5)))), (152, .d (.bool false)), (153, .d (I r1_5)), (155, .d (I t.Dark))], [(1, .var 49 [.d (I (A 0)), .d (I (A 1))]), (0, .var 25 (cv25 t))], 2, Fr.emp, [], 0⟩ (by kernel_rfl) ?_
       obtain ⟨r0_8, hx_46, h⟩ := bsome h
       refine r_call rfl rfl (k50 r1_5 0 t.Dark _ hx_46) rfl rfl ?_
       refine RunC.auX 3 ⟨[(1, .d (.sl 1 (List.map e3 o))), (3, .ptr 0 0), (5, .ptr 1 0), (8, .d (I v)), (13, .d (I v3)), (17, .d (I (wr (r0_5 + r0_4)))), (18, .d (I (wr (r0_6 + r1_5)))), (159, .d (.bool (!r0_8)))], [(1, .var 49 [.d (I (A 0)), .d (I (A 1))]), (0, .var 25 (cv25 t))], 2, Fr.emp, [], 0⟩ (by kernel_rfl) ?_
       refine r_split 159 rfl (fun hb_47 => ?_) (fun hb_47 => ?_)
       ·have h := ifT hb_47 h
        refine RunC.auX 33 ⟨[(1, .d (.sl 1 (List.map e3 o))), (3, .ptr 0 0), (5, .ptr 1 0), (8, .d (I v)), (13, .d (I v3)), (192, .d (.bool true))], [(1, .var 49 [.d (I (A 0)), .d (I (A 1))]), (0, .var 25 (cv25 t))], 2, Fr.emp, [], 0⟩ (by kernel_rfl) ?_
        refine RunC.fin ⟨[(1, .d (.sl 1 (List.map e3 o))), (3, .ptr 0 0), (5, .ptr 1 0), (8, .d (I v)), (13, .d (I v3)), (192, .d (.bool true))], [(1, .var 49 [.d (I (A 0)), .d (I (A 1))]), (0, .var 25 (cv25 t))], 2, Fr.emp, [], 0⟩ (by kernel_rfl) (by kernel_rfl) ?_
        obtain rfl := Option.some.inj h
        exact hK_41 _ (Can.kp (by kernel_rfl))
       ·have h := ifF hb_47 h
        refine RunC.auX 4 ⟨[(1, .d (.sl 1 (List.map e3 o))), (3, .ptr 0 0), (5, .ptr 1 0), (8, .d (I v)), (13, .d (I v3)), (17, .d (I (wr (r0_5 + r0_4)))), (18, .d (I (wr (r0_6 + r1_5)))), (159, .d (.bool false)), (160, .d (I (wr (r0_5 + r0_4)))), (162, .d (.sl 3 (List.map e69 t.Horses))), (163, .d (I v3))], [(1, .var 49 [.d (I (A 0)), .d (I (A 1))]), (0, .var 25 (cv25 t))], 2, Fr.emp, [], 0⟩ (by kernel_rfl) ?_
        refine r_iaD rfl rfl rfl hi_26 (row := e69 p2) (mapget hp_26) ?_
        refine RunC.auX 4 ⟨[(1, .d (.sl 1 (List.map e3 o))), (3, .ptr 0 0), (5, .ptr 1 0), (8, .d (I v)), (13, .d (I v3)), (17, .d (I (wr (r0_5 + r0_4)))), (18, .d (I (wr (r0_6 + r1_5)))), (159, .d (.bool false)), (160, .d (I (wr (r0_5 + r0_4)))), (166, .d (I p2.Shade)), (168, .d (I t.Near))], [(1, .var 49 [.d (I (A 0)), .d (I (A 1))]), (0, .var 25 (cv25 t))], 2, Fr.emp, [], 0⟩ (by kernel_rfl) ?_
        obtain ⟨r0_1_1, hx_48, h⟩ := bsome h
        refine r_call rfl rfl (k52 (wr (r0_5 + r0_4)) p2.Shade t.Near _ hx_48) rfl rfl ?_
        refine RunC.auX 3 ⟨[(1, .d (.sl 1 (List.map e3 o))), (3, .ptr 0 0), (5, .ptr 1 0), (8, .d (I v)), (13, .d (I v3)), (17, .d (I (wr (r0_5 + r0_4)))), (18, .d (I (wr (r0_6 + r1_5)))), (172, .d (.bool (!r0_1_1)))], [(1, .var 49 [.d (I (A 0)), .d (I (A 1))]), (0, .var 25 (cv25 t))], 2, Fr.emp, [], 0⟩ (by kernel_rfl) ?_
        refine r_split 172 rfl (fun hb_49 => ?_) (fun hb_49 => ?_)
        ·have h := ifT hb_49 h
         refine RunC.auX 20 ⟨[(1, .d (.sl 1 (List.map e3 o))), (3, .ptr 0 0), (5, .ptr 1 0), (8, .d (I v)), (13, .d (I v3)), (192, .d (.bool true))], [(1, .var 49 [.d (I (A 0)), .d (I (A 1))]), (0, .var 25 (cv25 t))], 2, Fr.emp, [], 0⟩ (by kernel_rfl) ?_
         refine RunC.fin ⟨[(1, .d (.sl 1 (List.map e3 o))), (3, .ptr 0 0), (5, .ptr 1 0), (8, .d (I v)), (13, .d (I v3)), (192, .d (.bool true))], [(1, .var 49 [.d (I (A 0)), .d (I (A 1))]), (0, .var 25 (cv25 t))], 2, Fr.emp, [], 0⟩ (by kernel_rfl) (by kernel_rfl) ?_
         obtain rfl := Option.some.inj h
         exact hK_41 _ (Can.kp (by kernel_rfl))
        ·have h := ifF hb_49 h
         refine RunC.auX 4 ⟨[(1, .d (.sl 1 (List.map e3 o))), (3, .ptr 0 0), (5, .ptr 1 0), (8, .d (I v)), (13, .d (I v3)), (17, .d (I (wr (r0_5 + r0_4)))), (18, .d (I (wr (r0_6 + r1_5)))), (172, .d (.bool false)), (173, .d (I (wr (r0_6 + r1_5)))), (175, .d (.sl 3 (List.map e69 t.Horses))), (176, .d (I v3))], [(1, .var 49 [.d (I (A 0)), .d (I (A 1))]), (0, .var 25 (cv25 t))], 2, Fr.emp, [], 0⟩ (by kernel_rfl) ?_
         refine r_iaD rfl rfl rfl hi_26 (row := e69 p2) (mapget hp_26) ?_
         refine RunC.auX 4 ⟨[(1, .d (.sl 1 (List.map e3 o))), (3, .ptr 0 0), (5, .ptr 1 0), (8, .d (I v)), (13, .d (I v3)), (17, .d (I (wr (r0_5 + r0_4)))), (18, .d (I (wr (r0_6 + r1_5)))), (172, .d (.bool false)), (173, .d (I (wr (r0_6 + r1_5)))), (179, .d (I p2.Shade)), (181, .d (I t.Near))], [(1, .var 49 [.d (I (A 0)), .d (I (A 1))]), (0, .var 25 (cv25 t))], 2, Fr.emp, [], 0⟩ (by kernel_rfl) ?_
         obtain ⟨r0_1_2, hx_50, h⟩ := bsome h
         refine r_call rfl rfl (k52 (wr (r0_6 + r1_5)) p2.Shade t.Near _ hx_50) rfl rfl ?_
         refine RunC.auX 3 ⟨[(1, .d (.sl 1 (List.map e3 o))), (3, .ptr 0 0), (5, .ptr 1 0), (8, .d (I v)), (13, .d (I v3)), (17, .d (I (wr (r0_5 + r0_4)))), (18, .d (I (wr (r0_6 + r1_5)))), (185, .d (.bool (!r0_1_2)))], [(1, .var 49 [.d (I (A 0)), .d (I (A 1))]), (0, .var 25 (cv25 t))], 2, Fr.emp, [], 0⟩ (by kernel_rfl) ?_
         refine r_split 185 rfl (fun hb_51 => ?_) (fun hb_51 => ?_)
         ·have h := ifT hb_51 h
          refine RunC.auX 7 ⟨[(1, .d (.sl 1 (List.map e3 o))), (3, .ptr 0 0), (5, .ptr 1 0), (8, .d (I v)), (13, .d (I v3)), (192, .d (.bool true))], [(1, .var 49 [.d (I (A 0)), .d (I (A 1))]), (0, .var 25 (cv25 t))], 2, Fr.emp, [], 0⟩ (by kernel_rfl) ?_
          refine RunC.fin ⟨[(1, .d (.sl 1 (List.map e3 o))), (3, .ptr 0 0), (5, .ptr 1 0), (8, .d (I v)), (13, .d (I v3)), (192, .d (.bool true))], [(1, .var 49 [.d (I (A 0)), .d (I (A 1))]), (0, .var 25 (cv25 t))], 2, Fr.emp, [], 0⟩ (by kernel_rfl) (by kernel_rfl) ?_
          obtain rfl := Option.some.inj h
          exact hK_41 _ (Can.kp (by kernel_rfl))
         ·have h := ifF hb_51 h
          refine RunC.auX 4 ⟨[(1, .d (.sl 1 (List.map e3 o))), (3, .ptr 0 0), (5, .ptr 1 0), (8, .d (I v)), (13, .d (I v3)), (185, .d (.bool false)), (186, .d (I (wr (r0_5 + r0_4)))), (187, .d (I (wr (r0_6 + r1_5)))), (189, .d (I t.Match))], [(1, .var 49 [.d (I (A 0)), .d (I (A 1))]), (0, .var 25 (cv25 t))], 2, Fr.emp, [], 0⟩ (by kernel_rfl) ?_
          obtain ⟨r0_1_3, hx_52, h⟩ := bsome h
          refine r_call rfl rfl (k52 (wr (r0_5 + r0_4)) (wr (r0_6 + r1_5)) t.Match _ hx_52) rfl rfl ?_
          refine RunC.auX 2 ⟨[(1, .d (.sl 1 (List.map e3 o))), (3, .ptr 0 0), (5, .ptr 1 0), (8, .d (I v)), (13, .d (I v3)), (192, .d (.bool (!r0_1_3)))], [(1, .var 49 [.d (I (A 0)), .d (I (A 1))]), (0, .var 25 (cv25 t))], 2, Fr.emp, [], 0⟩ (by kernel_rfl) ?_
          refine RunC.fin ⟨[(1, .d (.sl 1 (List.map e3 o))), (3, .ptr 0 0), (5, .ptr 1 0), (8, .d (I v)), (13, .d (I v3)), (192, .d (.bool (!r0_1_3)))], [(1, .var 49 [.d (I (A 0)), .d (I (A 1))]), (0, .var 25 (cv25 t))], 2, Fr.emp, [], 0⟩ (by kernel_rfl) (by kernel_rfl) ?_
          obtain rfl := Option.some.inj h
          exact hK_41 _ (Can.kp (by kernel_rfl))
    ·refine AW.cond rfl (fun hb_53 => ?_) (fun hb_53 => ?_)
     ·have h := ifT hb_53 h
      refine AW.sa fokW [] ⟨[(6, .d (.bool false))], [], 2, Fr.emp, [], 0⟩ (by kernel_rfl) ?_
      obtain rfl := Option.some.inj h
      obtain rfl := Aft.bk hk_30
      have e_1 := hb_26 _ rfl
      subst e_1
      obtain rfl := Aft.bk hk_26
      exact AW.ret (hR_0 _ (retX (.cons (.tmp rfl) .nil) (.refl _) rfl (by kernel_rfl) (by kernel_rfl)))
     ·have h := ifF hb_53 h
      refine AW.skip ?_
      obtain rfl := Option.some.inj h
      exact hK_30 _ _ rfl (Can.kp (by kernel_rfl))
   ·subst hj_30
    have h := Aft.nx hk_30
    refine AW.ra fokW [] ⟨[(1, .d (.sl 1 (List.map e3 o))), (3, .ptr 0 0), (5, .ptr 1 0), (8, .d (I v)), (13, .d (I (wr (v3 + 1))))], [(1, .var 49 [.d (I (A 0)), .d (I (A 1))]), (0, .var 25 (cv25 t))], 2, Fr.emp, [], 0⟩ (by kernel_rfl) ?_
    obtain rfl := Option.some.inj h
    have ew : wr (v3 + 1) = v3 + 1 := inext (N := (t.Horses.length : Int)) (by omega) (by omega) (by omega)
    rw [ew]
    exact hK_26 _ _ rfl (Can.kp (by kernel_rfl))
  ·subst hout
   have h := Aft.nx hk_26
   refine AW.seqK (fun K_54 hK_54 => ?_)
   refine AW.srwK (fun Q_55 hQ_55 => ?_)
   refine RW.au fokW 3 [] ⟨[(1, .d (.sl 1 (List.map e3 o))), (3, .ptr 0 0), (5, .ptr 1 0), (8, .d (I v)), (13, .d (I v3)), (74, .d (I v3)), (76, .d (.sl 3 (List.map e69 t.Horses)))], [(1, .var 49 [.d (I (A 0)), .d (I (A 1))]), (0, .var 25 (cv25 t))], 2, Fr.emp, [], 0⟩ (by kernel_rfl) ?_
   refine RW.one fokW (r_lenX trivial rfl lenm (r_end ?_))
   refine RW.au fokW 1 [] ⟨[(1, .d (.sl 1 (List.map e3 o))), (3, .ptr 0 0), (5, .ptr 1 0), (8, .d (I v)), (13, .d (I v3)), (78, .d (.bool (decide (v3 < (t.Horses.length : Int)))))], [(1, .var 49 [.d (I (A 0)), .d (I (A 1))]), (0, .var 25 (cv25 t))], 2, Fr.emp, [], 0⟩ (by kernel_rfl) ?_
   refine RW.nil ?_
   refine hQ_55 _ ?_
   refine AW.cond rfl (fun hb_56 => False.elim (by have := of_decide_eq_true hb_56; omega)) (fun hb_56 => ?_)
   refine AW.exit ?_
   refine hK_25 _ ?_
   refine AW.srwK (fun Q_57 hQ_57 => ?_)
   refine RW.au fokW 2 [] ⟨[(8, .d (I v)), (194, .agg (cv25 t)), (195, .d (.sl 1 (List.map e3 o)))], [], 2, Fr.emp, [], 0⟩ (by kernel_rfl) ?_
   obtain ⟨⟨r0_2_1, r1_4_1⟩, hx_58, h⟩ := bsome h
   refine RW.one fokW (r_call trivial rfl (k23 t o _ hx_58) rfl rfl (r_end ?_))
   refine RW.au fokW 6 [] ⟨[(8, .d (I v)), (19, .ptr 2 0), (20, .d (I r1_4_1))], [(2, .var 35 [.d (I r0_2_1.Low), .d (I r0_2_1.High)])], 3, Fr.emp, [], 0⟩ (by kernel_rfl) ?_
   refine RW.nil ?_
   refine hQ_57 _ ?_
   refine AW.srwK (fun Q_59 hQ_59 => ?_)
   refine RW.au fokW 3 [] ⟨[(8, .d (I v)), (19, .ptr 2 0), (201, .d (.bool (decide (r1_4_1 = 0))))], [(2, .var 35 [.d (I r0_2_1.Low), .d (I r0_2_1.High)])], 3, Fr.emp, [], 0⟩ (by kernel_rfl) ?_
   obtain ⟨v5, hx_60, h⟩ := bsome h
   refine RW.cut fokW 4 (⟨[(205, .d (.bool v5))], [], 3, Fr.emp, [], 0⟩) ?_ ?_
   ·refine r_split 201 rfl (fun hb_62 => ?_) (fun hb_62 => ?_)
    ·have h := ifT hb_62 hx_60
     refine RunC.auX 2 ⟨[(201, .d (.bool true)), (202, .agg [.d (I r0_2_1.Low), .d (I r0_2_1.High)]), (203, .d (I v))], [(2, .var 35 [.d (I r0_2_1.Low), .d (I r0_2_1.High)])], 3, Fr.emp, [], 0⟩ (by kernel_rfl) ?_
     obtain ⟨r0_9, hx_61, h⟩ := bsome h
     refine r_call rfl rfl (k95 r0_2_1 v _ hx_61) rfl rfl ?_
     refine RunC.auX 1 ⟨[(205, .d (.bool r0_9))], [(2, .var 35 [.d (I r0_2_1.Low), .d (I r0_2_1.High)])], 3, Fr.emp, [], 0⟩ (by kernel_rfl) ?_
     obtain rfl := Option.some.inj h
     refine RunC.finJ (Can.kp (by kernel_rfl))
    ·have h := ifF hb_62 hx_60
     refine RunC.auX 4 ⟨[(205, .d (.bool false))], [(2, .var 35 [.d (I r0_2_1.Low), .d (I r0_2_1.High)])], 3, Fr.emp, [], 0⟩ (by kernel_rfl) ?_
     obtain rfl := Option.some.inj h
     refine RunC.finJ (Can.kp (by kernel_rfl))
   ·refine RW.au fokW 1 [] ⟨[(6, .d (.bool v5))], [], 3, Fr.emp, [], 0⟩ (by kernel_rfl) ?_
    refine RW.nil ?_
    refine hQ_59 _ ?_
    obtain rfl := Option.some.inj h
    exact AW.ret (hR_0 _ (retX (.cons (.tmp rfl) .nil) (.refl _) rfl (by kernel_rfl) (by kernel_rfl)))
def g6_18 (b : HairBook) (n : (Nat → Int)) : Int → (List Int) → Unit → Option (Ctl (Unit) (Bool)) := fun k p _ => (g19 b p).bind fun (r0_2, r1_4) => (bif (decide (r1_4 ≠ 0)) then (some true) else ((g37 b p).bind fun r0_1 => some (!r0_1))).bind fun v1 => bif (v1 || ((decide (k = 1)) && (!r0_2))) then (some (.brk false)) else ((bif r0_2 then ((g38 b p n).bind fun y2 => some (!y2)) else (some false)).bind fun v2 => bif v2 then (some (.brk false)) else (some (.next ())))
def g6 (b : HairBook) (bits : (List Int)) (n : (Nat → Int)) : Option Bool := (g35 b).bind fun r0_7 => (bif (!r0_7) then (some true) else (some (decide ((b.Hanks.length : Int) = 0)))).bind fun v => bif v then ((g25).bind fun r0_12 => some r0_12) else ((g36 b bits).bind fun r0 => ((g26 b).bind fun (r0_3, r1_3) => bif (decide (r1_3 = 0)) then ((appL 24 [r0] [r0_3]).bind fun l1 => some l1) else (some [r0])).bind fun l => bindC (eachC (g6_18 b n) l 0 ()) fun _ => (g25).bind fun r0_12_1 => some r0_12_1)
theorem k6 (b : HairBook) (bits : (List Int)) (n : (Nat → Int)) (r : Bool) (h : g6 b bits n = some r) : SCall Tryd.prog Gs 6 [.agg (cv25 b), .d (.sl 1 (List.map e3 bits)), .agg [.d (I (n 0)), .d (I (n 1))]] [] 0 Fr.emp (.d (.bool r)) [] 0 Fr.emp := by
 unfold g6 at h
 refine SCall.mkK Tryd.func6 c6 rfl rfl (by kernel_rfl) (fun Q_0 hR_0 hN_0 => ?_)
 refine AW.sa fokW [] ⟨[(1, .d (.sl 1 (List.map e3 bits))), (3, .ptr 0 0), (5, .ptr 1 0)], [(1, .var 49 [.d (I (n 0)), .d (I (n 1))]), (0, .var 25 (cv25 b))], 2, Fr.emp, [], 0⟩ (by kernel_rfl) ?_
 refine AW.seqK (fun K_1 hK_1 => ?_)
 refine AW.srwK (fun Q_2 hQ_2 => ?_)
 refine RW.au fokW 1 [] ⟨[(1, .d (.sl 1 (List.map e3 bits))), (3, .ptr 0 0), (5, .ptr 1 0), (14, .agg (cv25 b))], [(1, .var 49 [.d (I (n 0)), .d (I (n 1))]), (0, .var 25 (cv25 b))], 2, Fr.emp, [], 0⟩ (by kernel_rfl) ?_
 obtain ⟨r0_7, hx_3, h⟩ := bsome h
 refine RW.one fokW (r_call trivial rfl (k35 b _ hx_3) rfl rfl (r_end ?_))
 refine RW.au fokW 2 [] ⟨[(1, .d (.sl 1 (List.map e3 bits))), (3, .ptr 0 0), (5, .ptr 1 0), (17, .d (.bool (!r0_7)))], [(1, .var 49 [.d (I (n 0)), .d (I (n 1))]), (0, .var 25 (cv25 b))], 2, Fr.emp, [], 0⟩ (by kernel_rfl) ?_
 obtain ⟨v, hx_4, h⟩ := bsome h
 refine RW.cut fokW 5 (⟨[(1, .d (.sl 1 (List.map e3 bits))), (3, .ptr 0 0), (5, .ptr 1 0), (22, .d (.bool v))], [(1, .var 49 [.d (I (n 0)), .d (I (n 1))]), (0, .var 25 (cv25 b))], 2, Fr.emp, [], 0⟩) ?_ ?_
 ·refine r_split 17 rfl (fun hb_5 => ?_) (fun hb_5 => ?_)
  ·have h := ifT hb_5 hx_4
   refine RunC.auX 5 ⟨[(1, .d (.sl 1 (List.map e3 bits))), (3, .ptr 0 0), (5, .ptr 1 0), (22, .d (.bool true))], [(1, .var 49 [.d (I (n 0)), .d (I (n 1))]), (0, .var 25 (cv25 b))], 2, Fr.emp, [], 0⟩ (by kernel_rfl) ?_
   obtain rfl := Option.some.inj h
   refine RunC.finJ (Can.kp (by kernel_rfl))
  ·have h := ifF hb_5 hx_4
   refine RunC.auX 2 ⟨[(1, .d (.sl 1 (List.map e3 bits))), (3, .ptr 0 0), (5, .ptr 1 0), (17, .d (.bool false)), (19, .d (.sl 4 (List.map e58 b.Hanks)))], [(1, .var 49 [.d (I (n 0)), .d (I (n 1))]), (0, .var 25 (cv25 b))], 2, Fr.emp, [], 0⟩ (by kernel_rfl) ?_
   refine r_lenX rfl rfl lenm ?_
   refine RunC.auX 2 ⟨[(1, .d (.sl 1 (List.map e3 bits))), (3, .ptr 0 0), (5, .ptr 1 0), (22, .d (.bool (decide ((b.Hanks.length : Int) = 0))))], [(1, .var 49 [.d (I (n 0)), .d (I (n 1))]), (0, .var 25 (cv25 b))], 2, Fr.emp, [], 0⟩ (by kernel_rfl) ?_
   obtain rfl := Option.some.inj h
   refine RunC.finJ (Can.kp (by kernel_rfl))
 ·refine RW.nil ?_
  refine hQ_2 _ ?_
  refine AW.cond rfl (fun hb_6 => ?_) (fun hb_6 => ?_)
  ·have h := ifT hb_6 h
   refine AW.srwK (fun Q_7 hQ_7 => ?_)
   obtain ⟨r0_12, hx_8, h⟩ := bsome h
   refine RW.one fokW (r_call trivial rfl (k25 _ hx_8) rfl rfl (r_end ?_))
   refine RW.au fokW 1 [] ⟨[(6, .d (.bool r0_12))], [], 2, Fr.emp, [], 0⟩ (by kernel_rfl) ?_
   refine RW.nil ?_
   refine hQ_7 _ ?_
   obtain rfl := Option.some.inj h
   exact AW.ret (hR_0 _ (retX (.cons (.tmp rfl) .nil) (.refl _) rfl (by kernel_rfl) (by kernel_rfl)))
  ·have h := ifF hb_6 h
   refine AW.skip ?_
   refine hK_1 _ ?_
   refine AW.srwK (fun Q_9 hQ_9 => ?_)
   refine RW.au fokW 2 [] ⟨[(3, .ptr 0 0), (5, .ptr 1 0), (24, .agg (cv25 b)), (25, .d (.sl 1 (List.map e3 bits)))], [(1, .var 49 [.d (I (n 0)), .d (I (n 1))]), (0, .var 25 (cv25 b))], 2, Fr.emp, [], 0⟩ (by kernel_rfl) ?_
   obtain ⟨r0, hx_10, h⟩ := bsome h
   refine RW.one fokW (r_call trivial rfl (k36 b bits _ hx_10) rfl rfl (r_end ?_))
   refine RW.au fokW 2 [] ⟨[(3, .ptr 0 0), (5, .ptr 1 0), (7, .own 2 (List.map e26 [r0]).length)], [(2, .row 26 1 (List.map e26 [r0])), (1, .var 49 [.d (I (n 0)), .d (I (n 1))]), (0, .var 25 (cv25 b))], 3, Fr.emp, [], 0⟩ (by kernel_rfl) ?_
   refine RW.nil ?_
   refine hQ_9 _ ?_
   obtain ⟨l, hx_11, h⟩ := bsome h
   refine AW.jnSK (fun (l : List (List Int)) => ⟨[(3, .ptr 0 0), (5, .ptr 1 0), (7, .own 2 (List.map e26 l).length)], [(2, .row 26 1 (List.map e26 l)), (1, .var 49 [.d (I (n 0)), .d (I (n 1))]), (0, .var 25 (cv25 b))], 3, Fr.emp, [], 0⟩) (c := l) (fun K_11 hK_11 => ?_) ?_
   ·have h := hx_11
    refine AW.srwK (fun Q_12 hQ_12 => ?_)
    refine RW.au fokW 1 [] ⟨[(3, .ptr 0 0), (5, .ptr 1 0), (7, .own 2 (List.map e26 [r0]).length), (29, .agg (cv25 b))], [(2, .row 26 1 (List.map e26 [r0])), (1, .var 49 [.d (I (n 0)), .d (I (n 1))]), (0, .var 25 (cv25 b))], 3, Fr.emp, [], 0⟩ (by kernel_rfl) ?_
    obtain ⟨⟨r0_3, r1_3⟩, hx_13, h⟩ := bsome h
    refine RW.one fokW (r_call trivial rfl (k26 b _ hx_13) rfl rfl (r_end ?_))
    refine RW.au fokW 5 [] ⟨[(3, .ptr 0 0), (5, .ptr 1 0), (7, .own 2 (List.map e26 [r0]).length), (8, .d (.sl 1 (List.map e3 r0_3))), (9, .d (I r1_3))], [(2, .row 26 1 (List.map e26 [r0])), (1, .var 49 [.d (I (n 0)), .d (I (n 1))]), (0, .var 25 (cv25 b))], 3, Fr.emp, [], 0⟩ (by kernel_rfl) ?_
    refine RW.nil ?_
    refine hQ_12 _ ?_
    refine AW.sa fokW [] ⟨[(3, .ptr 0 0), (5, .ptr 1 0), (7, .own 2 (List.map e26 [r0]).length), (8, .d (.sl 1 (List.map e3 r0_3))), (34, .d (.bool (decide (r1_3 = 0))))], [(2, .row 26 1 (List.map e26 [r0])), (1, .var 49 [.d (I (n 0)), .d (I (n 1))]), (0, .var 25 (cv25 b))], 3, Fr.emp, [], 0⟩ (by kernel_rfl) ?_
    refine AW.cond rfl (fun hb_14 => ?_) (fun hb_14 => ?_)
    ·have h := ifT hb_14 h
     refine AW.rw ?_
     refine RW.au fokW 3 [] ⟨[(3, .ptr 0 0), (5, .ptr 1 0), (35, .own 2 (List.map e26 [r0]).length), (37, .own 3 (List.map e26 [r0_3]).length)], [(3, .row 26 1 (List.map e26 [r0_3])), (2, .row 26 1 (List.map e26 [r0])), (1, .var 49 [.d (I (n 0)), .d (I (n 1))]), (0, .var 25 (cv25 b))], 4, Fr.emp, [], 0⟩ (by kernel_rfl) ?_
     obtain ⟨l1, hv_16, h⟩ := bsome h
     refine RW.one fokW (r_apO trivial rfl rfl rfl rfl rfl rfl (apz hv_16 e26) (apr hv_16 e26) (r_end ?_))
     refine RW.au fokW 1 [] ⟨[(3, .ptr 0 0), (5, .ptr 1 0), (7, .own 2 (List.map e26 l1).length)], [(2, .row 26 1 (List.map e26 l1)), (1, .var 49 [.d (I (n 0)), .d (I (n 1))]), (0, .var 25 (cv25 b))], 4, Fr.emp, [], 0⟩ (by kernel_rfl) ?_
     refine RW.nil ?_
     obtain rfl := Option.some.inj h
     exact hK_11 _ (Can.kp (by kernel_rfl))
    ·have h := ifF hb_14 h
     refine AW.skip ?_
     obtain rfl := Option.some.inj h
     exact hK_11 _ (Can.kp (by kernel_rfl))
   ·refine AW.seqK (fun K_17 hK_17 => ?_)
    refine AW.sa fokW [] ⟨[(3, .ptr 0 0), (5, .ptr 1 0), (7, .own 2 (List.map e26 l).length), (10, .d (I 0))], [(2, .row 26 1 (List.map e26 l)), (1, .var 49 [.d (I (n 0)), .d (I (n 1))]), (0, .var 25 (cv25 b))], 3, Fr.emp, [], 0⟩ (by kernel_rfl) ?_
    refine AW.block ?_
    refine AW.slo (t := 7) rfl (fun hN_18 => ?_)
    rw [List.length_map] at hN_18
    obtain ⟨out_18, hx_18, hk_18⟩ := bsomeC h
    refine AW.evCK (fun (k : Int) (_ : Unit) => ⟨[(3, .ptr 0 0), (5, .ptr 1 0), (7, .own 2 (List.map e26 l).length), (10, .d (I k))], [(2, .row 26 1 (List.map e26 l)), (1, .var 49 [.d (I (n 0)), .d (I (n 1))]), (0, .var 25 (cv25 b))], 3, Fr.emp, [], 0⟩) (g6_18 b n) hx_18 (Can.kp (by kernel_rfl)) (fun k p s_18 hi_18 hl_18 hp_18 c_18 h hb_18 K_18 hK_18 => ?_) (fun k s_18 hi_18 hl_18 hout => ?_)
    ·unfold g6_18 at h
     refine AW.seqK (fun K_19 hK_19 => ?_)
     refine AW.srwK (fun Q_20 hQ_20 => ?_)
     refine RW.au fokW 2 [] ⟨[(3, .ptr 0 0), (5, .ptr 1 0), (7, .own 2 (List.map e26 l).length), (10, .d (I k)), (39, .d (I k)), (40, .own 2 (List.map e26 l).length)], [(2, .row 26 1 (List.map e26 l)), (1, .var 49 [.d (I (n 0)), .d (I (n 1))]), (0, .var 25 (cv25 b))], 3, Fr.emp, [], 0⟩ (by kernel_rfl) ?_
     refine RW.one fokW (r_lenY trivial rfl lenm (r_end ?_))
     refine RW.au fokW 1 [] ⟨[(3, .ptr 0 0), (5, .ptr 1 0), (7, .own 2 (List.map e26 l).length), (10, .d (I k)), (42, .d (.bool (decide (k < (l.length : Int)))))], [(2, .row 26 1 (List.map e26 l)), (1, .var 49 [.d (I (n 0)), .d (I (n 1))]), (0, .var 25 (cv25 b))], 3, Fr.emp, [], 0⟩ (by kernel_rfl) ?_
     refine RW.nil ?_
     refine hQ_20 _ ?_
     refine AW.cond rfl (fun hb_21 => ?_) (fun hb_21 => False.elim (by have := of_decide_eq_false hb_21; omega))
     refine AW.skip ?_
     refine hK_19 _ ?_
     refine AW.seqK (fun K_22 hK_22 => ?_)
     refine AW.block ?_
     refine AW.srwK (fun Q_23 hQ_23 => ?_)
     refine RW.au fokW 2 [] ⟨[(3, .ptr 0 0), (5, .ptr 1 0), (7, .own 2 (List.map e26 l).length), (10, .d (I k)), (45, .own 2 (List.map e26 l).length), (46, .d (I k))], [(2, .row 26 1 (List.map e26 l)), (1, .var 49 [.d (I (n 0)), .d (I (n 1))]), (0, .var 25 (cv25 b))], 3, Fr.emp, [], 0⟩ (by kernel_rfl) ?_
     refine RW.one fokW (r_iaO trivial rfl rfl rfl hi_18 (ix_lt hp_18) rfl (r_end ?_))
     refine RW.one fokW (r_loadE trivial rfl rfl rfl (mapget (f := e26) hp_18) rfl (r_end ?_))
     refine RW.au fokW 1 [] ⟨[(3, .ptr 0 0), (5, .ptr 1 0), (7, .own 2 (List.map e26 l).length), (10, .d (I k)), (11, .d (.sl 1 (List.map e3 p)))], [(2, .row 26 1 (List.map e26 l)), (1, .var 49 [.d (I (n 0)), .d (I (n 1))]), (0, .var 25 (cv25 b))], 3, Fr.emp, [], 0⟩ (by kernel_rfl) ?_
     refine RW.nil ?_
     refine hQ_23 _ ?_
     refine AW.srwK (fun Q_24 hQ_24 => ?_)
     refine RW.au fokW 2 [] ⟨[(3, .ptr 0 0), (5, .ptr 1 0), (7, .own 2 (List.map e26 l).length), (10, .d (I k)), (11, .d (.sl 1 (List.map e3 p))), (50, .agg (cv25 b)), (51, .d (.sl 1 (List.map e3 p)))], [(2, .row 26 1 (List.map e26 l)), (1, .var 49 [.d (I (n 0)), .d (I (n 1))]), (0, .var 25 (cv25 b))], 3, Fr.emp, [], 0⟩ (by kernel_rfl) ?_
     obtain ⟨⟨r0_2, r1_4⟩, hx_25, h⟩ := bsome h
     refine RW.one fokW (r_call trivial rfl (k19 b p _ hx_25) rfl rfl (r_end ?_))
     refine RW.au fokW 5 [] ⟨[(3, .ptr 0 0), (5, .ptr 1 0), (7, .own 2 (List.map e26 l).length), (10, .d (I k)), (11, .d (.sl 1 (List.map e3 p))), (12, .d (.bool r0_2)), (13, .d (I r1_4))], [(2, .row 26 1 (List.map e26 l)), (1, .var 49 [.d (I (n 0)), .d (I (n 1))]), (0, .var 25 (cv25 b))], 3, Fr.emp, [], 0⟩ (by kernel_rfl) ?_
     refine RW.nil ?_
     refine hQ_24 _ ?_
     refine AW.seqK (fun K_26 hK_26 => ?_)
     refine AW.srwK (fun Q_27 hQ_27 => ?_)
     refine RW.au fokW 3 [] ⟨[(3, .ptr 0 0), (5, .ptr 1 0), (7, .own 2 (List.map e26 l).length), (10, .d (I k)), (11, .d (.sl 1 (List.map e3 p))), (12, .d (.bool r0_2)), (57, .d (.bool (decide (r1_4 ≠ 0))))], [(2, .row 26 1 (List.map e26 l)), (1, .var 49 [.d (I (n 0)), .d (I (n 1))]), (0, .var 25 (cv25 b))], 3, Fr.emp, [], 0⟩ (by kernel_rfl) ?_
     obtain ⟨v1, hx_28, h⟩ := bsome h
     refine RW.cut fokW 5 (⟨[(3, .ptr 0 0), (5, .ptr 1 0), (7, .own 2 (List.map e26 l).length), (10, .d (I k)), (11, .d (.sl 1 (List.map e3 p))), (12, .d (.bool r0_2)), (62, .d (.bool v1))], [(2, .row 26 1 (List.map e26 l)), (1, .var 49 [.d (I (n 0)), .d (I (n 1))]), (0, .var 25 (cv25 b))], 3, Fr.emp, [], 0⟩) ?_ ?_
     ·refine r_split 57 rfl (fun hb_30 => ?_) (fun hb_30 => ?_)
      ·have h := ifT hb_30 hx_28
       refine RunC.auX 5 ⟨[(3, .ptr 0 0), (5, .ptr 1 0), (7, .own 2 (List.map e26 l).length), (10, .d (I k)), (11, .d (.sl 1 (List.map e3 p))), (12, .d (.bool r0_2)), (62, .d (.bool true))], [(2, .row 26 1 (List.map e26 l)), (1, .var 49 [.d (I (n 0)), .d (I (n 1))]), (0, .var 25 (cv25 b))], 3, Fr.emp, [], 0⟩ (by kernel_rfl) ?_
       obtain rfl := Option.some.inj h
       refine RunC.finJ (Can.kp (by kernel_rfl))
      ·have h := ifF hb_30 hx_28
       refine RunC.auX 2 ⟨[(3, .ptr 0 0), (5, .ptr 1 0), (7, .own 2 (List.map e26 l).length), (10, .d (I k)), (11, .d (.sl 1 (List.map e3 p))), (12, .d (.bool r0_2)), (57, .d (.bool false)), (58, .agg (cv25 b)), (59, .d (.sl 1 (List.map e3 p)))], [(2, .row 26 1 (List.map e26 l)), (1, .var 49 [.d (I (n 0)), .d (I (n 1))]), (0, .var 25 (cv25 b))], 3, Fr.emp, [], 0⟩ (by kernel_rfl) ?_
       obtain ⟨r0_1, hx_29, h⟩ := bsome h
       refine r_call rfl rfl (k37 b p _ hx_29) rfl rfl ?_
       refine RunC.auX 2 ⟨[(3, .ptr 0 0), (5, .ptr 1 0), (7, .own 2 (List.map e26 l).length), (10, .d (I k)), (11, .d (.sl 1 (List.map e3 p))), (12, .d (.bool r0_2)), (62, .d (.bool (!r0_1)))], [(2, .row 26 1 (List.map e26 l)), (1, .var 49 [.d (I (n 0)), .d (I (n 1))]), (0, .var 25 (cv25 b))], 3, Fr.emp, [], 0⟩ (by kernel_rfl) ?_
       obtain rfl := Option.some.inj h
       refine RunC.finJ (Can.kp (by kernel_rfl))
     ·refine RW.au fokW 8 [66, 63] ⟨[(3, .ptr 0 0), (5, .ptr 1 0), (7, .own 2 (List.map e26 l).length), (10, .d (I k)), (11, .d (.sl 1 (List.map e3 p))), (12, .d (.bool r0_2)), (70, .d (.bool (v1 || ((decide (k = 1)) && (!r0_2)))))], [(2, .row 26 1 (List.map e26 l)), (1, .var 49 [.d (I (n 0)), .d (I (n 1))]), (0, .var 25 (cv25 b))], 3, Fr.emp, [], 0⟩ (by kernel_rfl) ?_
      refine RW.nil ?_
      refine hQ_27 _ ?_
      refine AW.cond rfl (fun hb_31 => ?_) (fun hb_31 => ?_)
      ·have h := ifT hb_31 h
       refine AW.sa fokW [] ⟨[(6, .d (.bool false))], [], 3, Fr.emp, [], 0⟩ (by kernel_rfl) ?_
       obtain rfl := Option.some.inj h
       have e_1 := hb_18 _ rfl
       subst e_1
       obtain rfl := Aft.bk hk_18
       exact AW.ret (hR_0 _ (retX (.cons (.tmp rfl) .nil) (.refl _) rfl (by kernel_rfl) (by kernel_rfl)))
      ·have h := ifF hb_31 h
       refine AW.skip ?_
       refine hK_26 _ ?_
       refine AW.srwK (fun Q_32 hQ_32 => ?_)
       refine RW.au fokW 2 [] ⟨[(3, .ptr 0 0), (5, .ptr 1 0), (7, .own 2 (List.map e26 l).length), (10, .d (I k)), (11, .d (.sl 1 (List.map e3 p))), (72, .d (.bool r0_2))], [(2, .row 26 1 (List.map e26 l)), (1, .var 49 [.d (I (n 0)), .d (I (n 1))]), (0, .var 25 (cv25 b))], 3, Fr.emp, [], 0⟩ (by kernel_rfl) ?_
       obtain ⟨v2, hx_33, h⟩ := bsome h
       refine RW.cut fokW 6 (⟨[(3, .ptr 0 0), (5, .ptr 1 0), (7, .own 2 (List.map e26 l).length), (10, .d (I k)), (78, .d (.bool v2))], [(2, .row 26 1 (List.map e26 l)), (1, .var 49 [.d (I (n 0)), .d (I (n 1))]), (0, .var 25 (cv25 b))], 3, Fr.emp, [], 0⟩) ?_ ?_
       ·refine r_split 72 rfl (fun hb_35 => ?_) (fun hb_35 => ?_)
        ·have h := ifT hb_35 hx_33
         refine RunC.auX 3 ⟨[(3, .ptr 0 0), (5, .ptr 1 0), (7, .own 2 (List.map e26 l).length), (10, .d (I k)), (72, .d (.bool true)), (73, .agg (cv25 b)), (74, .d (.sl 1 (List.map e3 p))), (75, .agg [.d (I (n 0)), .d (I (n 1))])], [(2, .row 26 1 (List.map e26 l)), (1, .var 49 [.d (I (n 0)), .d (I (n 1))]), (0, .var 25 (cv25 b))], 3, Fr.emp, [], 0⟩ (by kernel_rfl) ?_
         obtain ⟨y2, hx_34, h⟩ := bsome h
         refine r_call rfl rfl (k38 b p n _ hx_34) rfl rfl ?_
         refine RunC.auX 2 ⟨[(3, .ptr 0 0), (5, .ptr 1 0), (7, .own 2 (List.map e26 l).length), (10, .d (I k)), (78, .d (.bool (!y2)))], [(2, .row 26 1 (List.map e26 l)), (1, .var 49 [.d (I (n 0)), .d (I (n 1))]), (0, .var 25 (cv25 b))], 3, Fr.emp, [], 0⟩ (by kernel_rfl) ?_
         obtain rfl := Option.some.inj h
         refine RunC.finJ (Can.kp (by kernel_rfl))
        ·have h := ifF hb_35 hx_33
         refine RunC.auX 6 ⟨[(3, .ptr 0 0), (5, .ptr 1 0), (7, .own 2 (List.map e26 l).length), (10, .d (I k)), (78, .d (.bool false))], [(2, .row 26 1 (List.map e26 l)), (1, .var 49 [.d (I (n 0)), .d (I (n 1))]), (0, .var 25 (cv25 b))], 3, Fr.emp, [], 0⟩ (by kernel_rfl) ?_
         obtain rfl := Option.some.inj h
         refine RunC.finJ (Can.kp (by kernel_rfl))
       ·refine RW.nil ?_
        refine hQ_32 _ ?_
        refine AW.cond rfl (fun hb_36 => ?_) (fun hb_36 => ?_)
        ·have h := ifT hb_36 h
         refine AW.sa fokW [] ⟨[(6, .d (.bool false))], [], 3, Fr.emp, [], 0⟩ (by kernel_rfl) ?_
         obtain rfl := Option.some.inj h
         have e_1 := hb_18 _ rfl
         subst e_1
         obtain rfl := Aft.bk hk_18
         exact AW.ret (hR_0 _ (retX (.cons (.tmp rfl) .nil) (.refl _) rfl (by kernel_rfl) (by kernel_rfl)))
        ·have h := ifF hb_36 h
         refine AW.skip ?_
         refine hK_22 _ ?_
         refine AW.ra fokW [] ⟨[(3, .ptr 0 0), (5, .ptr 1 0), (7, .own 2 (List.map e26 l).length), (10, .d (I (wr (k + 1))))], [(2, .row 26 1 (List.map e26 l)), (1, .var 49 [.d (I (n 0)), .d (I (n 1))]), (0, .var 25 (cv25 b))], 3, Fr.emp, [], 0⟩ (by kernel_rfl) ?_
         obtain rfl := Option.some.inj h
         have ew : wr (k + 1) = k + 1 := inext (N := (l.length : Int)) (by omega) (by omega) (by omega)
         rw [ew]
         exact hK_18 _ _ rfl (Can.kp (by kernel_rfl))
    ·subst hout
     have h := Aft.nx hk_18
     refine AW.seqK (fun K_37 hK_37 => ?_)
     refine AW.srwK (fun Q_38 hQ_38 => ?_)
     refine RW.au fokW 2 [] ⟨[(3, .ptr 0 0), (5, .ptr 1 0), (7, .own 2 (List.map e26 l).length), (10, .d (I k)), (39, .d (I k)), (40, .own 2 (List.map e26 l).length)], [(2, .row 26 1 (List.map e26 l)), (1, .var 49 [.d (I (n 0)), .d (I (n 1))]), (0, .var 25 (cv25 b))], 3, Fr.emp, [], 0⟩ (by kernel_rfl) ?_
     refine RW.one fokW (r_lenY trivial rfl lenm (r_end ?_))
     refine RW.au fokW 1 [] ⟨[(3, .ptr 0 0), (5, .ptr 1 0), (7, .own 2 (List.map e26 l).length), (10, .d (I k)), (42, .d (.bool (decide (k < (l.length : Int)))))], [(2, .row 26 1 (List.map e26 l)), (1, .var 49 [.d (I (n 0)), .d (I (n 1))]), (0, .var 25 (cv25 b))], 3, Fr.emp, [], 0⟩ (by kernel_rfl) ?_
     refine RW.nil ?_
     refine hQ_38 _ ?_
     refine AW.cond rfl (fun hb_39 => False.elim (by have := of_decide_eq_true hb_39; omega)) (fun hb_39 => ?_)
     refine AW.exit ?_
     refine hK_17 _ ?_
     refine AW.srwK (fun Q_40 hQ_40 => ?_)
     obtain ⟨r0_12_1, hx_41, h⟩ := bsome h
     refine RW.one fokW (r_call trivial rfl (k25 _ hx_41) rfl rfl (r_end ?_))
     refine RW.au fokW 1 [] ⟨[(6, .d (.bool r0_12_1))], [], 3, Fr.emp, [], 0⟩ (by kernel_rfl) ?_
     refine RW.nil ?_
     refine hQ_40 _ ?_
     obtain rfl := Option.some.inj h
     exact AW.ret (hR_0 _ (retX (.cons (.tmp rfl) .nil) (.refl _) rfl (by kernel_rfl) (by kernel_rfl)))
end Go.Proofs.Th
