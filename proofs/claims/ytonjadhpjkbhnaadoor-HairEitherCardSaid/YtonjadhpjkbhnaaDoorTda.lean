/- Told functions, and that the program does so, part 1. Conditions: none. -/
import Derived.Test.YtonjadhpjkbhnaaDoorDa
set_option linter.unusedVariables false
set_option linter.unusedSimpArgs false
namespace Go.Proofs.Th
open Go Go.Abs Go.Proofs
def g57 (n : Int) (low : Int) (high : Int) : Option Bool := some ((decide (low ≤ n)) && (decide (n ≤ high)))
theorem k57 (n : Int) (low : Int) (high : Int) (r : Bool) (h : g57 n low high = some r) : SCall Tryd.prog Gs 57 [.d (I n), .d (I low), .d (I high)] [] 0 Fr.emp (.d (.bool r)) [] 0 Fr.emp := by
 unfold g57 at h
 refine SCall.mkK Tryd.func57 c57 rfl rfl (by kernel_rfl) (fun Q_0 hR_0 hN_0 => ?_)
 refine AW.sa fokW [] ⟨[(0, .d (I n)), (1, .d (I low)), (2, .d (I high))], [], 0, Fr.emp, [], 0⟩ (by kernel_rfl) ?_
 refine AW.sa fokW [10] ⟨[(6, .d (.bool ((decide (low ≤ n)) && (decide (n ≤ high)))))], [], 0, Fr.emp, [], 0⟩ (by kernel_rfl) ?_
 obtain rfl := Option.some.inj h
 exact AW.ret (hR_0 _ (retX (.cons (.tmp rfl) .nil) (.refl _) rfl (by kernel_rfl) (by kernel_rfl)))
def g63 (s : Span) (low : Int) (high : Int) (wide : Int) : Option Bool := some ((((decide (low ≤ s.Low)) && (decide (s.Low ≤ s.High))) && (decide (s.High ≤ high))) && (decide ((wr (s.High - s.Low)) ≤ wide)))
theorem k63 (s : Span) (low : Int) (high : Int) (wide : Int) (r : Bool) (h : g63 s low high wide = some r) : SCall Tryd.prog Gs 63 [.agg [.d (I s.Low), .d (I s.High)], .d (I low), .d (I high), .d (I wide)] [] 0 Fr.emp (.d (.bool r)) [] 0 Fr.emp := by
 unfold g63 at h
 refine SCall.mkK Tryd.func63 c63 rfl rfl (by kernel_rfl) (fun Q_0 hR_0 hN_0 => ?_)
 refine AW.sa fokW [] ⟨[(1, .d (I low)), (2, .d (I high)), (3, .d (I wide)), (4, .ptr 0 0)], [(0, .var 35 [.d (I s.Low), .d (I s.High)])], 1, Fr.emp, [], 0⟩ (by kernel_rfl) ?_
 refine AW.sa fokW [13, 20, 26] ⟨[(8, .d (.bool ((((decide (low ≤ s.Low)) && (decide (s.Low ≤ s.High))) && (decide (s.High ≤ high))) && (decide ((wr (s.High - s.Low)) ≤ wide)))))], [], 1, Fr.emp, [], 0⟩ (by kernel_rfl) ?_
 obtain rfl := Option.some.inj h
 exact AW.ret (hR_0 _ (retX (.cons (.tmp rfl) .nil) (.refl _) rfl (by kernel_rfl) (by kernel_rfl)))
def g17_31 : Int → HairHorse → Bool → Option Bool := fun v7 p1 ok1 => (bif ok1 then ((g57 p1.Mane 1 30).bind fun r0_5 => some r0_5) else (some false)).bind fun v8 => (bif v8 then ((g57 p1.Tail 1 30).bind fun r0_6 => some r0_6) else (some false)).bind fun v9 => (bif v9 then ((g57 p1.Shade 0 25).bind fun r0_7 => some r0_7) else (some false)).bind fun v10 => some v10
def g17_15 : Int → HairHank → Bool → Option Bool := fun v4 p ok => (bif ok then ((g63 p.Weight 1 60 4).bind fun r0_3 => some r0_3) else (some false)).bind fun v5 => (bif v5 then ((g63 p.Shade 0 20 2).bind fun r0_4 => some r0_4) else (some false)).bind fun v6 => some v6
def g17 (b : HairBook) : Option Int := (bif (decide ((b.Hanks.length : Int) ≤ 4)) then (some (decide ((b.Horses.length : Int) ≤ 3))) else (some false)).bind fun v => (bif v then ((g57 b.Dark 0 4).bind fun r0 => some r0) else (some false)).bind fun v1 => (bif v1 then ((g57 b.Near 0 3).bind fun r0_1 => some r0_1) else (some false)).bind fun v2 => (bif v2 then ((g57 b.Match 0 3).bind fun r0_2 => some r0_2) else (some false)).bind fun v3 => (eachS g17_15 b.Hanks 0 v3).bind fun ok => (eachS g17_31 b.Horses 0 ok).bind fun ok1 => bif (!ok1) then (some 60) else (some 0)
theorem k17 (b : HairBook) (r : Int) (h : g17 b = some r) : SCall Tryd.prog Gs 17 [.agg (cv25 b)] [] 0 Fr.emp (.d (I r)) [] 0 Fr.emp := by
 unfold g17 at h
 refine SCall.mkK Tryd.func17 c17 rfl rfl (by kernel_rfl) (fun Q_0 hR_0 hN_0 => ?_)
 refine AW.sa fokW [] ⟨[(1, .ptr 0 0)], [(0, .var 25 (cv25 b))], 1, Fr.emp, [], 0⟩ (by kernel_rfl) ?_
 refine AW.srwK (fun Q_1 hQ_1 => ?_)
 refine RW.au fokW 2 [] ⟨[(1, .ptr 0 0), (9, .d (.sl 4 (List.map e58 b.Hanks)))], [(0, .var 25 (cv25 b))], 1, Fr.emp, [], 0⟩ (by kernel_rfl) ?_
 refine RW.one fokW (r_lenX trivial rfl lenm (r_end ?_))
 refine RW.au fokW 2 [] ⟨[(1, .ptr 0 0), (12, .d (.bool (decide ((b.Hanks.length : Int) ≤ 4))))], [(0, .var 25 (cv25 b))], 1, Fr.emp, [], 0⟩ (by kernel_rfl) ?_
 obtain ⟨v, hx_2, h⟩ := bsome h
 refine RW.cut fokW 5 (⟨[(1, .ptr 0 0), (17, .d (.bool v))], [(0, .var 25 (cv25 b))], 1, Fr.emp, [], 0⟩) ?_ ?_
 ·refine r_split 12 rfl (fun hb_3 => ?_) (fun hb_3 => ?_)
  ·have h := ifT hb_3 hx_2
   refine RunC.auX 2 ⟨[(1, .ptr 0 0), (12, .d (.bool true)), (14, .d (.sl 3 (List.map e69 b.Horses)))], [(0, .var 25 (cv25 b))], 1, Fr.emp, [], 0⟩ (by kernel_rfl) ?_
   refine r_lenX rfl rfl lenm ?_
   refine RunC.auX 2 ⟨[(1, .ptr 0 0), (17, .d (.bool (decide ((b.Horses.length : Int) ≤ 3))))], [(0, .var 25 (cv25 b))], 1, Fr.emp, [], 0⟩ (by kernel_rfl) ?_
   obtain rfl := Option.some.inj h
   refine RunC.finJ (Can.kp (by kernel_rfl))
  ·have h := ifF hb_3 hx_2
   refine RunC.auX 5 ⟨[(1, .ptr 0 0), (17, .d (.bool false))], [(0, .var 25 (cv25 b))], 1, Fr.emp, [], 0⟩ (by kernel_rfl) ?_
   obtain rfl := Option.some.inj h
   refine RunC.finJ (Can.kp (by kernel_rfl))
 ·refine RW.au fokW 1 [] ⟨[(1, .ptr 0 0), (18, .d (.bool v))], [(0, .var 25 (cv25 b))], 1, Fr.emp, [], 0⟩ (by kernel_rfl) ?_
  obtain ⟨v1, hx_4, h⟩ := bsome h
  refine RW.cut fokW 4 (⟨[(1, .ptr 0 0), (22, .d (.bool v1))], [(0, .var 25 (cv25 b))], 1, Fr.emp, [], 0⟩) ?_ ?_
  ·refine r_split 18 rfl (fun hb_6 => ?_) (fun hb_6 => ?_)
   ·have h := ifT hb_6 hx_4
    refine RunC.auX 2 ⟨[(1, .ptr 0 0), (18, .d (.bool true)), (20, .d (I b.Dark))], [(0, .var 25 (cv25 b))], 1, Fr.emp, [], 0⟩ (by kernel_rfl) ?_
    obtain ⟨r0, hx_5, h⟩ := bsome h
    refine r_call rfl rfl (k57 b.Dark 0 4 _ hx_5) rfl rfl ?_
    refine RunC.auX 1 ⟨[(1, .ptr 0 0), (22, .d (.bool r0))], [(0, .var 25 (cv25 b))], 1, Fr.emp, [], 0⟩ (by kernel_rfl) ?_
    obtain rfl := Option.some.inj h
    refine RunC.finJ (Can.kp (by kernel_rfl))
   ·have h := ifF hb_6 hx_4
    refine RunC.auX 4 ⟨[(1, .ptr 0 0), (22, .d (.bool false))], [(0, .var 25 (cv25 b))], 1, Fr.emp, [], 0⟩ (by kernel_rfl) ?_
    obtain rfl := Option.some.inj h
    refine RunC.finJ (Can.kp (by kernel_rfl))
  ·refine RW.au fokW 1 [] ⟨[(1, .ptr 0 0), (23, .d (.bool v1))], [(0, .var 25 (cv25 b))], 1, Fr.emp, [], 0⟩ (by kernel_rfl) ?_
   obtain ⟨v2, hx_7, h⟩ := bsome h
   refine RW.cut fokW 4 (⟨[(1, .ptr 0 0), (27, .d (.bool v2))], [(0, .var 25 (cv25 b))], 1, Fr.emp, [], 0⟩) ?_ ?_
   ·refine r_split 23 rfl (fun hb_9 => ?_) (fun hb_9 => ?_)
    ·have h := ifT hb_9 hx_7
     refine RunC.auX 2 ⟨[(1, .ptr 0 0), (23, .d (.bool true)), (25, .d (I b.Near))], [(0, .var 25 (cv25 b))], 1, Fr.emp, [], 0⟩ (by kernel_rfl) ?_
     obtain ⟨r0_1, hx_8, h⟩ := bsome h
     refine r_call rfl rfl (k57 b.Near 0 3 _ hx_8) rfl rfl ?_
     refine RunC.auX 1 ⟨[(1, .ptr 0 0), (27, .d (.bool r0_1))], [(0, .var 25 (cv25 b))], 1, Fr.emp, [], 0⟩ (by kernel_rfl) ?_
     obtain rfl := Option.some.inj h
     refine RunC.finJ (Can.kp (by kernel_rfl))
    ·have h := ifF hb_9 hx_7
     refine RunC.auX 4 ⟨[(1, .ptr 0 0), (27, .d (.bool false))], [(0, .var 25 (cv25 b))], 1, Fr.emp, [], 0⟩ (by kernel_rfl) ?_
     obtain rfl := Option.some.inj h
     refine RunC.finJ (Can.kp (by kernel_rfl))
   ·refine RW.au fokW 1 [] ⟨[(1, .ptr 0 0), (28, .d (.bool v2))], [(0, .var 25 (cv25 b))], 1, Fr.emp, [], 0⟩ (by kernel_rfl) ?_
    obtain ⟨v3, hx_10, h⟩ := bsome h
    refine RW.cut fokW 4 (⟨[(1, .ptr 0 0), (32, .d (.bool v3))], [(0, .var 25 (cv25 b))], 1, Fr.emp, [], 0⟩) ?_ ?_
    ·refine r_split 28 rfl (fun hb_12 => ?_) (fun hb_12 => ?_)
     ·have h := ifT hb_12 hx_10
      refine RunC.auX 2 ⟨[(1, .ptr 0 0), (28, .d (.bool true)), (30, .d (I b.Match))], [(0, .var 25 (cv25 b))], 1, Fr.emp, [], 0⟩ (by kernel_rfl) ?_
      obtain ⟨r0_2, hx_11, h⟩ := bsome h
      refine r_call rfl rfl (k57 b.Match 0 3 _ hx_11) rfl rfl ?_
      refine RunC.auX 1 ⟨[(1, .ptr 0 0), (32, .d (.bool r0_2))], [(0, .var 25 (cv25 b))], 1, Fr.emp, [], 0⟩ (by kernel_rfl) ?_
      obtain rfl := Option.some.inj h
      refine RunC.finJ (Can.kp (by kernel_rfl))
     ·have h := ifF hb_12 hx_10
      refine RunC.auX 4 ⟨[(1, .ptr 0 0), (32, .d (.bool false))], [(0, .var 25 (cv25 b))], 1, Fr.emp, [], 0⟩ (by kernel_rfl) ?_
      obtain rfl := Option.some.inj h
      refine RunC.finJ (Can.kp (by kernel_rfl))
    ·refine RW.au fokW 1 [] ⟨[(1, .ptr 0 0), (3, .d (.bool v3))], [(0, .var 25 (cv25 b))], 1, Fr.emp, [], 0⟩ (by kernel_rfl) ?_
     refine RW.nil ?_
     refine hQ_1 _ ?_
     refine AW.seqK (fun K_13 hK_13 => ?_)
     refine AW.srwK (fun Q_14 hQ_14 => ?_)
     refine RW.au fokW 2 [] ⟨[(1, .ptr 0 0), (3, .d (.bool v3)), (34, .d (.sl 4 (List.map e58 b.Hanks)))], [(0, .var 25 (cv25 b))], 1, Fr.emp, [], 0⟩ (by kernel_rfl) ?_
     refine RW.one fokW (r_lenX trivial rfl lenm (r_end ?_))
     refine RW.au fokW 1 [] ⟨[(1, .ptr 0 0), (3, .d (.bool v3)), (34, .d (.sl 4 (List.map e58 b.Hanks))), (35, .d (I (b.Hanks.length : Int))), (36, .d (I 0))], [(0, .var 25 (cv25 b))], 1, Fr.emp, [], 0⟩ (by kernel_rfl) ?_
     refine RW.nil ?_
     refine hQ_14 _ ?_
     refine AW.block ?_
     refine AW.sln (t := 34) rfl (fun hN_15 => ?_)
     rw [List.length_map] at hN_15
     obtain ⟨out_15, hx_15, h⟩ := bsome h
     refine AW.evSK (fun (v4 : Int) (ok : Bool) => ⟨[(1, .ptr 0 0), (3, .d (.bool ok)), (34, .d (.sl 4 (List.map e58 b.Hanks))), (35, .d (I (b.Hanks.length : Int))), (36, .d (I v4))], [(0, .var 25 (cv25 b))], 1, Fr.emp, [], 0⟩) g17_15 hx_15 (Can.kp (by kernel_rfl)) (fun v4 p ok hi_15 hl_15 hp_15 c_15 h K_15 hK_15 => ?_) (fun v4 ok hi_15 hl_15 hout => ?_)
     ·unfold g17_15 at h
      refine AW.sa fokW [] ⟨[(1, .ptr 0 0), (3, .d (.bool ok)), (34, .d (.sl 4 (List.map e58 b.Hanks))), (35, .d (I (b.Hanks.length : Int))), (36, .d (I v4)), (37, .d (.bool (decide (v4 < (b.Hanks.length : Int)))))], [(0, .var 25 (cv25 b))], 1, Fr.emp, [], 0⟩ (by kernel_rfl) ?_
      refine AW.seqK (fun K_16 hK_16 => ?_)
      refine AW.cond rfl (fun hb_17 => ?_) (fun hb_17 => False.elim (by have := of_decide_eq_false hb_17; omega))
      refine AW.skip ?_
      refine hK_16 _ ?_
      refine AW.seqK (fun K_18 hK_18 => ?_)
      refine AW.block ?_
      refine AW.srwK (fun Q_19 hQ_19 => ?_)
      refine RW.one fokW (r_iaD trivial rfl rfl hi_15 (row := e58 p) (mapget hp_15) (r_end ?_))
      refine RW.au fokW 3 [] ⟨[(1, .ptr 0 0), (3, .d (.bool ok)), (5, .ptr 1 0), (34, .d (.sl 4 (List.map e58 b.Hanks))), (35, .d (I (b.Hanks.length : Int))), (36, .d (I v4))], [(1, .var 58 (cv58 p)), (0, .var 25 (cv25 b))], 2, Fr.emp, [], 0⟩ (by kernel_rfl) ?_
      refine RW.nil ?_
      refine hQ_19 _ ?_
      refine AW.rw ?_
      refine RW.au fokW 2 [] ⟨[(1, .ptr 0 0), (5, .ptr 1 0), (34, .d (.sl 4 (List.map e58 b.Hanks))), (35, .d (I (b.Hanks.length : Int))), (36, .d (I v4)), (41, .d (.bool ok))], [(1, .var 58 (cv58 p)), (0, .var 25 (cv25 b))], 2, Fr.emp, [], 0⟩ (by kernel_rfl) ?_
      obtain ⟨v5, hx_21, h⟩ := bsome h
      refine RW.cut fokW 4 (⟨[(1, .ptr 0 0), (5, .ptr 1 0), (34, .d (.sl 4 (List.map e58 b.Hanks))), (35, .d (I (b.Hanks.length : Int))), (36, .d (I v4)), (45, .d (.bool v5))], [(1, .var 58 (cv58 p)), (0, .var 25 (cv25 b))], 2, Fr.emp, [], 0⟩) ?_ ?_
      ·refine r_split 41 rfl (fun hb_23 => ?_) (fun hb_23 => ?_)
       ·have h := ifT hb_23 hx_21
        refine RunC.auX 2 ⟨[(1, .ptr 0 0), (5, .ptr 1 0), (34, .d (.sl 4 (List.map e58 b.Hanks))), (35, .d (I (b.Hanks.length : Int))), (36, .d (I v4)), (41, .d (.bool true)), (43, .agg [.d (I p.Weight.Low), .d (I p.Weight.High)])], [(1, .var 58 (cv58 p)), (0, .var 25 (cv25 b))], 2, Fr.emp, [], 0⟩ (by kernel_rfl) ?_
        obtain ⟨r0_3, hx_22, h⟩ := bsome h
        refine r_call rfl rfl (k63 p.Weight 1 60 4 _ hx_22) rfl rfl ?_
        refine RunC.auX 1 ⟨[(1, .ptr 0 0), (5, .ptr 1 0), (34, .d (.sl 4 (List.map e58 b.Hanks))), (35, .d (I (b.Hanks.length : Int))), (36, .d (I v4)), (45, .d (.bool r0_3))], [(1, .var 58 (cv58 p)), (0, .var 25 (cv25 b))], 2, Fr.emp, [], 0⟩ (by kernel_rfl) ?_
        obtain rfl := Option.some.inj h
        refine RunC.finJ (Can.kp (by kernel_rfl))
       ·have h := ifF hb_23 hx_21
        refine RunC.auX 4 ⟨[(1, .ptr 0 0), (5, .ptr 1 0), (34, .d (.sl 4 (List.map e58 b.Hanks))), (35, .d (I (b.Hanks.length : Int))), (36, .d (I v4)), (45, .d (.bool false))], [(1, .var 58 (cv58 p)), (0, .var 25 (cv25 b))], 2, Fr.emp, [], 0⟩ (by kernel_rfl) ?_
        obtain rfl := Option.some.inj h
        refine RunC.finJ (Can.kp (by kernel_rfl))
      ·refine RW.au fokW 1 [] ⟨[(1, .ptr 0 0), (5, .ptr 1 0), (34, .d (.sl 4 (List.map e58 b.Hanks))), (35, .d (I (b.Hanks.length : Int))), (36, .d (I v4)), (46, .d (.bool v5))], [(1, .var 58 (cv58 p)), (0, .var 25 (cv25 b))], 2, Fr.emp, [], 0⟩ (by kernel_rfl) ?_
       obtain ⟨v6, hx_24, h⟩ := bsome h
       refine RW.cut fokW 4 (⟨[(1, .ptr 0 0), (34, .d (.sl 4 (List.map e58 b.Hanks))), (35, .d (I (b.Hanks.length : Int))), (36, .d (I v4)), (50, .d (.bool v6))], [(0, .var 25 (cv25 b))], 2, Fr.emp, [], 0⟩) ?_ ?_
       ·refine r_split 46 rfl (fun hb_26 => ?_) (fun hb_26 => ?_)
        ·have h := ifT hb_26 hx_24
         refine RunC.auX 2 ⟨[(1, .ptr 0 0), (34, .d (.sl 4 (List.map e58 b.Hanks))), (35, .d (I (b.Hanks.length : Int))), (36, .d (I v4)), (46, .d (.bool true)), (48, .agg [.d (I p.Shade.Low), .d (I p.Shade.High)])], [(1, .var 58 (cv58 p)), (0, .var 25 (cv25 b))], 2, Fr.emp, [], 0⟩ (by kernel_rfl) ?_
         obtain ⟨r0_4, hx_25, h⟩ := bsome h
         refine r_call rfl rfl (k63 p.Shade 0 20 2 _ hx_25) rfl rfl ?_
         refine RunC.auX 1 ⟨[(1, .ptr 0 0), (34, .d (.sl 4 (List.map e58 b.Hanks))), (35, .d (I (b.Hanks.length : Int))), (36, .d (I v4)), (50, .d (.bool r0_4))], [(1, .var 58 (cv58 p)), (0, .var 25 (cv25 b))], 2, Fr.emp, [], 0⟩ (by kernel_rfl) ?_
         obtain rfl := Option.some.inj h
         refine RunC.finJ (Can.kp (by kernel_rfl))
        ·have h := ifF hb_26 hx_24
         refine RunC.auX 4 ⟨[(1, .ptr 0 0), (34, .d (.sl 4 (List.map e58 b.Hanks))), (35, .d (I (b.Hanks.length : Int))), (36, .d (I v4)), (50, .d (.bool false))], [(1, .var 58 (cv58 p)), (0, .var 25 (cv25 b))], 2, Fr.emp, [], 0⟩ (by kernel_rfl) ?_
         obtain rfl := Option.some.inj h
         refine RunC.finJ (Can.kp (by kernel_rfl))
       ·refine RW.au fokW 1 [] ⟨[(1, .ptr 0 0), (3, .d (.bool v6)), (34, .d (.sl 4 (List.map e58 b.Hanks))), (35, .d (I (b.Hanks.length : Int))), (36, .d (I v4))], [(0, .var 25 (cv25 b))], 2, Fr.emp, [], 0⟩ (by kernel_rfl) ?_
        refine RW.nil ?_
        refine hK_18 _ ?_
        refine AW.ra fokW [] ⟨[(1, .ptr 0 0), (3, .d (.bool v6)), (34, .d (.sl 4 (List.map e58 b.Hanks))), (35, .d (I (b.Hanks.length : Int))), (36, .d (I (wr (v4 + 1))))], [(0, .var 25 (cv25 b))], 2, Fr.emp, [], 0⟩ (by kernel_rfl) ?_
        obtain rfl := Option.some.inj h
        have ew : wr (v4 + 1) = v4 + 1 := inext (N := (b.Hanks.length : Int)) (by omega) (by omega) (by omega)
        rw [ew]
        exact hK_15 _ (Can.kp (by kernel_rfl))
     ·subst hout
      refine AW.sa fokW [] ⟨[(1, .ptr 0 0), (3, .d (.bool ok)), (34, .d (.sl 4 (List.map e58 b.Hanks))), (35, .d (I (b.Hanks.length : Int))), (36, .d (I v4)), (37, .d (.bool (decide (v4 < (b.Hanks.length : Int)))))], [(0, .var 25 (cv25 b))], 1, Fr.emp, [], 0⟩ (by kernel_rfl) ?_
      refine AW.seqK (fun K_27 hK_27 => ?_)
      refine AW.cond rfl (fun hb_28 => False.elim (by have := of_decide_eq_true hb_28; omega)) (fun hb_28 => ?_)
      refine AW.exit ?_
      refine hK_13 _ ?_
      refine AW.seqK (fun K_29 hK_29 => ?_)
      refine AW.srwK (fun Q_30 hQ_30 => ?_)
      refine RW.au fokW 2 [] ⟨[(3, .d (.bool ok)), (53, .d (.sl 3 (List.map e69 b.Horses)))], [], 1, Fr.emp, [], 0⟩ (by kernel_rfl) ?_
      refine RW.one fokW (r_lenX trivial rfl lenm (r_end ?_))
      refine RW.au fokW 1 [] ⟨[(3, .d (.bool ok)), (53, .d (.sl 3 (List.map e69 b.Horses))), (54, .d (I (b.Horses.length : Int))), (55, .d (I 0))], [], 1, Fr.emp, [], 0⟩ (by kernel_rfl) ?_
      refine RW.nil ?_
      refine hQ_30 _ ?_
      refine AW.block ?_
      refine AW.sln (t := 53) rfl (fun hN_31 => ?_)
      rw [List.length_map] at hN_31
      obtain ⟨out_31, hx_31, h⟩ := bsome h
      refine AW.evSK (fun (v7 : Int) (ok1 : Bool) => ⟨[(3, .d (.bool ok1)), (53, .d (.sl 3 (List.map e69 b.Horses))), (54, .d (I (b.Horses.length : Int))), (55, .d (I v7))], [], 1, Fr.emp, [], 0⟩) g17_31 hx_31 (Can.kp (by kernel_rfl)) (fun v7 p1 ok1 hi_31 hl_31 hp_31 c_31 h K_31 hK_31 => ?_) (fun v7 ok1 hi_31 hl_31 hout => ?_)
      ·unfold g17_31 at h
       refine AW.sa fokW [] ⟨[(3, .d (.bool ok1)), (53, .d (.sl 3 (List.map e69 b.Horses))), (54, .d (I (b.Horses.length : Int))), (55, .d (I v7)), (56, .d (.bool (decide (v7 < (b.Horses.length : Int)))))], [], 1, Fr.emp, [], 0⟩ (by kernel_rfl) ?_
       refine AW.seqK (fun K_32 hK_32 => ?_)
       refine AW.cond rfl (fun hb_33 => ?_) (fun hb_33 => False.elim (by have := of_decide_eq_false hb_33; omega))
       refine AW.skip ?_
       refine hK_32 _ ?_
       refine AW.seqK (fun K_34 hK_34 => ?_)
       refine AW.block ?_
       refine AW.srwK (fun Q_35 hQ_35 => ?_)
       refine RW.one fokW (r_iaD trivial rfl rfl hi_31 (row := e69 p1) (mapget hp_31) (r_end ?_))
       refine RW.au fokW 3 [] ⟨[(3, .d (.bool ok1)), (7, .ptr 1 0), (53, .d (.sl 3 (List.map e69 b.Horses))), (54, .d (I (b.Horses.length : Int))), (55, .d (I v7))], [(1, .var 69 [.d (I p1.Mane), .d (I p1.Tail), .d (I p1.Shade)])], 2, Fr.emp, [], 0⟩ (by kernel_rfl) ?_
       refine RW.nil ?_
       refine hQ_35 _ ?_
       refine AW.rw ?_
       refine RW.au fokW 2 [] ⟨[(7, .ptr 1 0), (53, .d (.sl 3 (List.map e69 b.Horses))), (54, .d (I (b.Horses.length : Int))), (55, .d (I v7)), (60, .d (.bool ok1))], [(1, .var 69 [.d (I p1.Mane), .d (I p1.Tail), .d (I p1.Shade)])], 2, Fr.emp, [], 0⟩ (by kernel_rfl) ?_
       obtain ⟨v8, hx_37, h⟩ := bsome h
       refine RW.cut fokW 4 (⟨[(7, .ptr 1 0), (53, .d (.sl 3 (List.map e69 b.Horses))), (54, .d (I (b.Horses.length : Int))), (55, .d (I v7)), (64, .d (.bool v8))], [(1, .var 69 [.d (I p1.Mane), .d (I p1.Tail), .d (I p1.Shade)])], 2, Fr.emp, [], 0⟩) ?_ ?_
       ·refine r_split 60 rfl (fun hb_39 => ?_) (fun hb_39 => ?_)
        ·have h := ifT hb_39 hx_37
         refine RunC.auX 2 ⟨[(7, .ptr 1 0), (53, .d (.sl 3 (List.map e69 b.Horses))), (54, .d (I (b.Horses.length : Int))), (55, .d (I v7)), (60, .d (.bool true)), (62, .d (I p1.Mane))], [(1, .var 69 [.d (I p1.Mane), .d (I p1.Tail), .d (I p1.Shade)])], 2, Fr.emp, [], 0⟩ (by kernel_rfl) ?_
         obtain ⟨r0_5, hx_38, h⟩ := bsome h
         refine r_call rfl rfl (k57 p1.Mane 1 30 _ hx_38) rfl rfl ?_
         refine RunC.auX 1 ⟨[(7, .ptr 1 0), (53, .d (.sl 3 (List.map e69 b.Horses))), (54, .d (I (b.Horses.length : Int))), (55, .d (I v7)), (64, .d (.bool r0_5))], [(1, .var 69 [.d (I p1.Mane), .d (I p1.Tail), .d (I p1.Shade)])], 2, Fr.emp, [], 0⟩ (by kernel_rfl) ?_
         obtain rfl := Option.some.inj h
         refine RunC.finJ (Can.kp (by kernel_rfl))
        ·have h := ifF hb_39 hx_37
         refine RunC.auX 4 ⟨[(7, .ptr 1 0), (53, .d (.sl 3 (List.map e69 b.Horses))), (54, .d (I (b.Horses.length : Int))), (55, .d (I v7)), (64, .d (.bool false))], [(1, .var 69 [.d (I p1.Mane), .d (I p1.Tail), .d (I p1.Shade)])], 2, Fr.emp, [], 0⟩ (by kernel_rfl) ?_
         obtain rfl := Option.some.inj h
         refine RunC.finJ (Can.kp (by kernel_rfl))
       ·refine RW.au fokW 1 [] ⟨[(7, .ptr 1 0), (53, .d (.sl 3 (List.map e69 b.Horses))), (54, .d (I (b.Horses.length : Int))), (55, .d (I v7)), (65, .d (.bool v8))], [(1, .var 69 [.d (I p1.Mane), .d (I p1.Tail), .d (I p1.Shade)])], 2, Fr.emp, [], 0⟩ (by kernel_rfl) ?_
        obtain ⟨v9, hx_40, h⟩ := bsome h
        refine RW.cut fokW 4 (⟨[(7, .ptr 1 0), (53, .d (.sl 3 (List.map e69 b.Horses))), (54, .d (I (b.Horses.length : Int))), (55, .d (I v7)), (69, .d (.bool v9))], [(1, .var 69 [.d (I p1.Mane), .d (I p1.Tail), .d (I p1.Shade)])], 2, Fr.emp, [], 0⟩) ?_ ?_
        ·refine r_split 65 rfl (fun hb_42 => ?_) (fun hb_42 => ?_)
         ·have h := ifT hb_42 hx_40
          refine RunC.auX 2 ⟨[(7, .ptr 1 0), (53, .d (.sl 3 (List.map e69 b.Horses))), (54, .d (I (b.Horses.length : Int))), (55, .d (I v7)), (65, .d (.bool true)), (67, .d (I p1.Tail))], [(1, .var 69 [.d (I p1.Mane), .d (I p1.Tail), .d (I p1.Shade)])], 2, Fr.emp, [], 0⟩ (by kernel_rfl) ?_
          obtain ⟨r0_6, hx_41, h⟩ := bsome h
          refine r_call rfl rfl (k57 p1.Tail 1 30 _ hx_41) rfl rfl ?_
          refine RunC.auX 1 ⟨[(7, .ptr 1 0), (53, .d (.sl 3 (List.map e69 b.Horses))), (54, .d (I (b.Horses.length : Int))), (55, .d (I v7)), (69, .d (.bool r0_6))], [(1, .var 69 [.d (I p1.Mane), .d (I p1.Tail), .d (I p1.Shade)])], 2, Fr.emp, [], 0⟩ (by kernel_rfl) ?_
          obtain rfl := Option.some.inj h
          refine RunC.finJ (Can.kp (by kernel_rfl))
         ·have h := ifF hb_42 hx_40
          refine RunC.auX 4 ⟨[(7, .ptr 1 0), (53, .d (.sl 3 (List.map e69 b.Horses))), (54, .d (I (b.Horses.length : Int))), (55, .d (I v7)), (69, .d (.bool false))], [(1, .var 69 [.d (I p1.Mane), .d (I p1.Tail), .d (I p1.Shade)])], 2, Fr.emp, [], 0⟩ (by kernel_rfl) ?_
          obtain rfl := Option.some.inj h
          refine RunC.finJ (Can.kp (by kernel_rfl))
        ·refine RW.au fokW 1 [] ⟨[(7, .ptr 1 0), (53, .d (.sl 3 (List.map e69 b.Horses))), (54, .d (I (b.Horses.length : Int))), (55, .d (I v7)), (70, .d (.bool v9))], [(1, .var 69 [.d (I p1.Mane), .d (I p1.Tail), .d (I p1.Shade)])], 2, Fr.emp, [], 0⟩ (by kernel_rfl) ?_
         obtain ⟨v10, hx_43, h⟩ := bsome h
         refine RW.cut fokW 4 (⟨[(53, .d (.sl 3 (List.map e69 b.Horses))), (54, .d (I (b.Horses.length : Int))), (55, .d (I v7)), (74, .d (.bool v10))], [], 2, Fr.emp, [], 0⟩) ?_ ?_
         ·refine r_split 70 rfl (fun hb_45 => ?_) (fun hb_45 => ?_)
          ·have h := ifT hb_45 hx_43
           refine RunC.auX 2 ⟨[(53, .d (.sl 3 (List.map e69 b.Horses))), (54, .d (I (b.Horses.length : Int))), (55, .d (I v7)), (70, .d (.bool true)), (72, .d (I p1.Shade))], [(1, .var 69 [.d (I p1.Mane), .d (I p1.Tail), .d (I p1.Shade)])], 2, Fr.emp, [], 0⟩ (by kernel_rfl) ?_
           obtain ⟨r0_7, hx_44, h⟩ := bsome h
           refine r_call rfl rfl (k57 p1.Shade 0 25 _ hx_44) rfl rfl ?_
           refine RunC.auX 1 ⟨[(53, .d (.sl 3 (List.map e69 b.Horses))), (54, .d (I (b.Horses.length : Int))), (55, .d (I v7)), (74, .d (.bool r0_7))], [(1, .var 69 [.d (I p1.Mane), .d (I p1.Tail), .d (I p1.Shade)])], 2, Fr.emp, [], 0⟩ (by kernel_rfl) ?_
           obtain rfl := Option.some.inj h
           refine RunC.finJ (Can.kp (by kernel_rfl))
          ·have h := ifF hb_45 hx_43
           refine RunC.auX 4 ⟨[(53, .d (.sl 3 (List.map e69 b.Horses))), (54, .d (I (b.Horses.length : Int))), (55, .d (I v7)), (74, .d (.bool false))], [(1, .var 69 [.d (I p1.Mane), .d (I p1.Tail), .d (I p1.Shade)])], 2, Fr.emp, [], 0⟩ (by kernel_rfl) ?_
           obtain rfl := Option.some.inj h
           refine RunC.finJ (Can.kp (by kernel_rfl))
         ·refine RW.au fokW 1 [] ⟨[(3, .d (.bool v10)), (53, .d (.sl 3 (List.map e69 b.Horses))), (54, .d (I (b.Horses.length : Int))), (55, .d (I v7))], [], 2, Fr.emp, [], 0⟩ (by kernel_rfl) ?_
          refine RW.nil ?_
          refine hK_34 _ ?_
          refine AW.ra fokW [] ⟨[(3, .d (.bool v10)), (53, .d (.sl 3 (List.map e69 b.Horses))), (54, .d (I (b.Horses.length : Int))), (55, .d (I (wr (v7 + 1))))], [], 2, Fr.emp, [], 0⟩ (by kernel_rfl) ?_
          obtain rfl := Option.some.inj h
          have ew : wr (v7 + 1) = v7 + 1 := inext (N := (b.Horses.length : Int)) (by omega) (by omega) (by omega)
          rw [ew]
          exact hK_31 _ (Can.kp (by kernel_rfl))
      ·subst hout
       refine AW.sa fokW [] ⟨[(3, .d (.bool ok1)), (53, .d (.sl 3 (List.map e69 b.Horses))), (54, .d (I (b.Horses.length : Int))), (55, .d (I v7)), (56, .d (.bool (decide (v7 < (b.Horses.length : Int)))))], [], 1, Fr.emp, [], 0⟩ (by kernel_rfl) ?_
       refine AW.seqK (fun K_46 hK_46 => ?_)
       refine AW.cond rfl (fun hb_47 => False.elim (by have := of_decide_eq_true hb_47; omega)) (fun hb_47 => ?_)
       refine AW.exit ?_
       refine hK_29 _ ?_
       refine AW.seqK (fun K_48 hK_48 => ?_)
       refine AW.sa fokW [] ⟨[(77, .d (.bool (!ok1)))], [], 1, Fr.emp, [], 0⟩ (by kernel_rfl) ?_
       refine AW.cond rfl (fun hb_49 => ?_) (fun hb_49 => ?_)
       ·have h := ifT hb_49 h
        refine AW.sa fokW [] ⟨[(2, .d (I 60))], [], 1, Fr.emp, [], 0⟩ (by kernel_rfl) ?_
        obtain rfl := Option.some.inj h
        exact AW.ret (hR_0 _ (retX (.cons (.tmp rfl) .nil) (.refl _) rfl (by kernel_rfl) (by kernel_rfl)))
       ·have h := ifF hb_49 h
        refine AW.skip ?_
        refine hK_48 _ ?_
        refine AW.sa fokW [] ⟨[(2, .d (I 0))], [], 1, Fr.emp, [], 0⟩ (by kernel_rfl) ?_
        obtain rfl := Option.some.inj h
        exact AW.ret (hR_0 _ (retX (.cons (.tmp rfl) .nil) (.refl _) rfl (by kernel_rfl) (by kernel_rfl)))
def g80_8 (v : Int) (p : HairHank) : Int → (List (Hair_dye × Span)) → Option (List (Hair_dye × Span)) := fun v1 m1 => (mput q84 m1 (Hair_dye.mk v v1) (Span.mk (wr (p.Shade.Low + v1)) (wr (p.Shade.High + v1)))).bind fun m2 => some m2
def g80_3 (x : HairBook) : Int → HairHank → (List (Hair_dye × Span)) → Option (List (Hair_dye × Span)) := fun v p m => (forS (g80_8 v p) ((((wr (x.Dark + 1)) : Int) - 0).toNat) 0 m).bind fun m1 => some m1
def g80 (x : HairBook) : Option (HairBook × (List (Hair_dye × Span))) := (eachS (g80_3 x) x.Hanks 0 ([] : List (Hair_dye × Span))).bind fun m => some (x, m)
theorem k80 (x : HairBook) (r : HairBook × (List (Hair_dye × Span))) (h : g80 x = some r) : SCall Tryd.prog Gs 80 [.agg (cv25 x)] [] 0 Fr.emp (match r with | (r0_B, mf) => .agg (hbm r0_B mf)) [] 0 Fr.emp := by
 unfold g80 at h
 refine SCall.mkK Tryd.func80 c80 rfl rfl (by kernel_rfl) (fun Q_0 hR_0 hN_0 => ?_)
 refine AW.sa fokW [] ⟨[(1, .ptr 0 0), (2, .ptr 1 0)], [(1, .var 78 [.d (.nilSl), .d (.nilSl), .d (I 0), .d (I 0), .d (I 0), .d (.nilMap)]), (0, .var 25 (cv25 x))], 2, Fr.emp, [], 0⟩ (by kernel_rfl) ?_
 refine AW.sa fokW [] ⟨[(1, .ptr 0 0), (2, .ptr 1 0), (3, .ptr 3 0)], [(3, .var 78 (catV (cv25 x) [.map 2])), (2, .mp (List.map m84_35 [])), (1, .var 78 [.d (.nilSl), .d (.nilSl), .d (I 0), .d (I 0), .d (I 0), .d (.nilMap)]), (0, .var 25 (cv25 x))], 4, Fr.emp, [], 0⟩ (by kernel_rfl) ?_
 refine AW.seqK (fun K_1 hK_1 => ?_)
 refine AW.srwK (fun Q_2 hQ_2 => ?_)
 refine RW.au fokW 2 [] ⟨[(1, .ptr 0 0), (2, .ptr 1 0), (3, .ptr 3 0), (11, .d (.sl 4 (List.map e58 x.Hanks)))], [(3, .var 78 (catV (cv25 x) [.map 2])), (2, .mp (List.map m84_35 [])), (1, .var 78 [.d (.nilSl), .d (.nilSl), .d (I 0), .d (I 0), .d (I 0), .d (.nilMap)]), (0, .var 25 (cv25 x))], 4, Fr.emp, [], 0⟩ (by kernel_rfl) ?_
 refine RW.one fokW (r_lenX trivial rfl lenm (r_end ?_))
 refine RW.au fokW 1 [] ⟨[(1, .ptr 0 0), (2, .ptr 1 0), (3, .ptr 3 0), (11, .d (.sl 4 (List.map e58 x.Hanks))), (12, .d (I (x.Hanks.length : Int))), (13, .d (I 0))], [(3, .var 78 (catV (cv25 x) [.map 2])), (2, .mp (List.map m84_35 [])), (1, .var 78 [.d (.nilSl), .d (.nilSl), .d (I 0), .d (I 0), .d (I 0), .d (.nilMap)]), (0, .var 25 (cv25 x))], 4, Fr.emp, [], 0⟩ (by kernel_rfl) ?_
 refine RW.nil ?_
 refine hQ_2 _ ?_
 refine AW.block ?_
 refine AW.sln (t := 11) rfl (fun hN_3 => ?_)
 rw [List.length_map] at hN_3
 obtain ⟨out_3, hx_3, h⟩ := bsome h
 refine AW.evSK (fun (v : Int) (m : List (Hair_dye × Span)) => ⟨[(1, .ptr 0 0), (2, .ptr 1 0), (3, .ptr 3 0), (11, .d (.sl 4 (List.map e58 x.Hanks))), (12, .d (I (x.Hanks.length : Int))), (13, .d (I v))], [(3, .var 78 (catV (cv25 x) [.map 2])), (2, .mp (List.map m84_35 m)), (1, .var 78 [.d (.nilSl), .d (.nilSl), .d (I 0), .d (I 0), .d (I 0), .d (.nilMap)]), (0, .var 25 (cv25 x))], 4, Fr.emp, [], 0⟩) (g80_3 x) hx_3 (Can.kp (by kernel_rfl)) (fun v p m hi_3 hl_3 hp_3 c_3 h K_3 hK_3 => ?_) (fun v m hi_3 hl_3 hout => ?_)
 ·unfold g80_3 at h
  refine AW.sa fokW [] ⟨[(1, .ptr 0 0), (2, .ptr 1 0), (3, .ptr 3 0), (11, .d (.sl 4 (List.map e58 x.Hanks))), (12, .d (I (x.Hanks.length : Int))), (13, .d (I v)), (14, .d (.bool (decide (v < (x.Hanks.length : Int)))))], [(3, .var 78 (catV (cv25 x) [.map 2])), (2, .mp (List.map m84_35 m)), (1, .var 78 [.d (.nilSl), .d (.nilSl), .d (I 0), .d (I 0), .d (I 0), .d (.nilMap)]), (0, .var 25 (cv25 x))], 4, Fr.emp, [], 0⟩ (by kernel_rfl) ?_
  refine AW.seqK (fun K_4 hK_4 => ?_)
  refine AW.cond rfl (fun hb_5 => ?_) (fun hb_5 => False.elim (by have := of_decide_eq_false hb_5; omega))
  refine AW.skip ?_
  refine hK_4 _ ?_
  refine AW.seqK (fun K_6 hK_6 => ?_)
  refine AW.block ?_
  refine AW.srwK (fun Q_7 hQ_7 => ?_)
  refine RW.au fokW 1 [] ⟨[(1, .ptr 0 0), (2, .ptr 1 0), (3, .ptr 3 0), (11, .d (.sl 4 (List.map e58 x.Hanks))), (12, .d (I (x.Hanks.length : Int))), (13, .d (I v)), (15, .d (I v))], [(3, .var 78 (catV (cv25 x) [.map 2])), (2, .mp (List.map m84_35 m)), (1, .var 78 [.d (.nilSl), .d (.nilSl), .d (I 0), .d (I 0), .d (I 0), .d (.nilMap)]), (0, .var 25 (cv25 x))], 4, Fr.emp, [], 0⟩ (by kernel_rfl) ?_
  refine RW.one fokW (r_iaD trivial rfl rfl hi_3 (row := e58 p) (mapget hp_3) (r_end ?_))
  refine RW.au fokW 4 [] ⟨[(1, .ptr 0 0), (2, .ptr 1 0), (3, .ptr 3 0), (4, .d (I v)), (5, .ptr 4 0), (11, .d (.sl 4 (List.map e58 x.Hanks))), (12, .d (I (x.Hanks.length : Int))), (13, .d (I v))], [(4, .var 58 (cv58 p)), (3, .var 78 (catV (cv25 x) [.map 2])), (2, .mp (List.map m84_35 m)), (1, .var 78 [.d (.nilSl), .d (.nilSl), .d (I 0), .d (I 0), .d (I 0), .d (.nilMap)]), (0, .var 25 (cv25 x))], 5, Fr.emp, [], 0⟩ (by kernel_rfl) ?_
  refine RW.nil ?_
  refine hQ_7 _ ?_
  refine AW.sa fokW [] ⟨[(1, .ptr 0 0), (2, .ptr 1 0), (3, .ptr 3 0), (4, .d (I v)), (5, .ptr 4 0), (11, .d (.sl 4 (List.map e58 x.Hanks))), (12, .d (I (x.Hanks.length : Int))), (13, .d (I v)), (20, .d (I (wr (x.Dark + 1)))), (21, .d (I 0))], [(4, .var 58 (cv58 p)), (3, .var 78 (catV (cv25 x) [.map 2])), (2, .mp (List.map m84_35 m)), (1, .var 78 [.d (.nilSl), .d (.nilSl), .d (I 0), .d (I 0), .d (I 0), .d (.nilMap)]), (0, .var 25 (cv25 x))], 5, Fr.emp, [], 0⟩ (by kernel_rfl) ?_
  refine AW.block ?_
  have hN_8 : (wr (x.Dark + 1)) ≤ 9223372036854775807 := (wr_range _).2
  obtain ⟨out_8, hx_8, h⟩ := bsome h
  refine AW.lpSK (fun (v1 : Int) (m1 : List (Hair_dye × Span)) => ⟨[(1, .ptr 0 0), (2, .ptr 1 0), (3, .ptr 3 0), (4, .d (I v)), (5, .ptr 4 0), (11, .d (.sl 4 (List.map e58 x.Hanks))), (12, .d (I (x.Hanks.length : Int))), (13, .d (I v)), (20, .d (I (wr (x.Dark + 1)))), (21, .d (I v1))], [(4, .var 58 (cv58 p)), (3, .var 78 (catV (cv25 x) [.map 2])), (2, .mp (List.map m84_35 m1)), (1, .var 78 [.d (.nilSl), .d (.nilSl), .d (I 0), .d (I 0), .d (I 0), .d (.nilMap)]), (0, .var 25 (cv25 x))], 5, Fr.emp, [], 0⟩) (g80_8 v p) ((wr (x.Dark + 1))) hx_8 (Can.kp (by kernel_rfl)) (fun v1 m1 hi_8 hl_8 c_8 h K_8 hK_8 => ?_) (fun v1 m1 hi_8 hl_8 hout => ?_)
  ·unfold g80_8 at h
   refine AW.sa fokW [] ⟨[(1, .ptr 0 0), (2, .ptr 1 0), (3, .ptr 3 0), (4, .d (I v)), (5, .ptr 4 0), (11, .d (.sl 4 (List.map e58 x.Hanks))), (12, .d (I (x.Hanks.length : Int))), (13, .d (I v)), (20, .d (I (wr (x.Dark + 1)))), (21, .d (I v1)), (22, .d (.bool (decide (v1 < (wr (x.Dark + 1))))))], [(4, .var 58 (cv58 p)), (3, .var 78 (catV (cv25 x) [.map 2])), (2, .mp (List.map m84_35 m1)), (1, .var 78 [.d (.nilSl), .d (.nilSl), .d (I 0), .d (I 0), .d (I 0), .d (.nilMap)]), (0, .var 25 (cv25 x))], 5, Fr.emp, [], 0⟩ (by kernel_rfl) ?_
   refine AW.seqK (fun K_9 hK_9 => ?_)
   refine AW.cond rfl (fun hb_10 => ?_) (fun hb_10 => False.elim (by have := of_decide_eq_false hb_10; omega))
   refine AW.skip ?_
   refine hK_9 _ ?_
   refine AW.seqK (fun K_11 hK_11 => ?_)
   refine AW.block ?_
   refine AW.sa fokW [] ⟨[(1, .ptr 0 0), (2, .ptr 1 0), (3, .ptr 3 0), (4, .d (I v)), (5, .ptr 4 0), (6, .d (I v1)), (11, .d (.sl 4 (List.map e58 x.Hanks))), (12, .d (I (x.Hanks.length : Int))), (13, .d (I v)), (20, .d (I (wr (x.Dark + 1)))), (21, .d (I v1))], [(4, .var 58 (cv58 p)), (3, .var 78 (catV (cv25 x) [.map 2])), (2, .mp (List.map m84_35 m1)), (1, .var 78 [.d (.nilSl), .d (.nilSl), .d (I 0), .d (I 0), .d (I 0), .d (.nilMap)]), (0, .var 25 (cv25 x))], 5, Fr.emp, [], 0⟩ (by kernel_rfl) ?_
   refine AW.rw ?_
   refine RW.au fokW 16 [] ⟨[(1, .ptr 0 0), (2, .ptr 1 0), (3, .ptr 3 0), (4, .d (I v)), (5, .ptr 4 0), (11, .d (.sl 4 (List.map e58 x.Hanks))), (12, .d (I (x.Hanks.length : Int))), (13, .d (I v)), (20, .d (I (wr (x.Dark + 1)))), (21, .d (I v1)), (25, .map 2), (28, .agg [.d (I v), .d (I v1)]), (39, .agg [.d (I (wr (p.Shade.Low + v1))), .d (I (wr (p.Shade.High + v1)))])], [(4, .var 58 (cv58 p)), (3, .var 78 (catV (cv25 x) [.map 2])), (2, .mp (List.map m84_35 m1)), (1, .var 78 [.d (.nilSl), .d (.nilSl), .d (I 0), .d (I 0), .d (I 0), .d (.nilMap)]), (0, .var 25 (cv25 x))], 5, Fr.emp, [], 0⟩ (by kernel_rfl) ?_
   obtain ⟨m2, hv_13, h⟩ := bsome h
   refine RW.one fokW (r_mput q84 e84 (fun x => DV.a (e35 x)) trivial rfl rfl rfl rfl ft84 q84_ok (fun _ => rfl) rfl hv_13 (r_end ?_))
   refine RW.nil ?_
   refine hK_11 _ ?_
   refine AW.ra fokW [] ⟨[(1, .ptr 0 0), (2, .ptr 1 0), (3, .ptr 3 0), (4, .d (I v)), (5, .ptr 4 0), (11, .d (.sl 4 (List.map e58 x.Hanks))), (12, .d (I (x.Hanks.length : Int))), (13, .d (I v)), (20, .d (I (wr (x.Dark + 1)))), (21, .d (I (wr (v1 + 1))))], [(2, .mp (List.map m84_35 m2)), (4, .var 58 (cv58 p)), (3, .var 78 (catV (cv25 x) [.map 2])), (1, .var 78 [.d (.nilSl), .d (.nilSl), .d (I 0), .d (I 0), .d (I 0), .d (.nilMap)]), (0, .var 25 (cv25 x))], 5, Fr.emp, [], 0⟩ (by kernel_rfl) ?_
   obtain rfl := Option.some.inj h
   have ew : wr (v1 + 1) = v1 + 1 := inext (N := (wr (x.Dark + 1))) (by omega) (by omega) (by omega)
   rw [ew]
   exact hK_8 _ (Can.kp (by kernel_rfl))
  ·subst hout
   refine AW.sa fokW [] ⟨[(1, .ptr 0 0), (2, .ptr 1 0), (3, .ptr 3 0), (4, .d (I v)), (5, .ptr 4 0), (11, .d (.sl 4 (List.map e58 x.Hanks))), (12, .d (I (x.Hanks.length : Int))), (13, .d (I v)), (20, .d (I (wr (x.Dark + 1)))), (21, .d (I v1)), (22, .d (.bool (decide (v1 < (wr (x.Dark + 1))))))], [(4, .var 58 (cv58 p)), (3, .var 78 (catV (cv25 x) [.map 2])), (2, .mp (List.map m84_35 m1)), (1, .var 78 [.d (.nilSl), .d (.nilSl), .d (I 0), .d (I 0), .d (I 0), .d (.nilMap)]), (0, .var 25 (cv25 x))], 5, Fr.emp, [], 0⟩ (by kernel_rfl) ?_
   refine AW.seqK (fun K_14 hK_14 => ?_)
   refine AW.cond rfl (fun hb_15 => False.elim (by have := of_decide_eq_true hb_15; omega)) (fun hb_15 => ?_)
   refine AW.exit ?_
   refine hK_6 _ ?_
   refine AW.ra fokW [] ⟨[(1, .ptr 0 0), (2, .ptr 1 0), (3, .ptr 3 0), (11, .d (.sl 4 (List.map e58 x.Hanks))), (12, .d (I (x.Hanks.length : Int))), (13, .d (I (wr (v + 1))))], [(3, .var 78 (catV (cv25 x) [.map 2])), (2, .mp (List.map m84_35 m1)), (1, .var 78 [.d (.nilSl), .d (.nilSl), .d (I 0), .d (I 0), .d (I 0), .d (.nilMap)]), (0, .var 25 (cv25 x))], 5, Fr.emp, [], 0⟩ (by kernel_rfl) ?_
   obtain rfl := Option.some.inj h
   have ew : wr (v + 1) = v + 1 := inext (N := (x.Hanks.length : Int)) (by omega) (by omega) (by omega)
   rw [ew]
   exact hK_3 _ (Can.kp (by kernel_rfl))
 ·subst hout
  refine AW.sa fokW [] ⟨[(1, .ptr 0 0), (2, .ptr 1 0), (3, .ptr 3 0), (11, .d (.sl 4 (List.map e58 x.Hanks))), (12, .d (I (x.Hanks.length : Int))), (13, .d (I v)), (14, .d (.bool (decide (v < (x.Hanks.length : Int)))))], [(3, .var 78 (catV (cv25 x) [.map 2])), (2, .mp (List.map m84_35 m)), (1, .var 78 [.d (.nilSl), .d (.nilSl), .d (I 0), .d (I 0), .d (I 0), .d (.nilMap)]), (0, .var 25 (cv25 x))], 4, Fr.emp, [], 0⟩ (by kernel_rfl) ?_
  refine AW.seqK (fun K_16 hK_16 => ?_)
  refine AW.cond rfl (fun hb_17 => False.elim (by have := of_decide_eq_true hb_17; omega)) (fun hb_17 => ?_)
  refine AW.exit ?_
  refine hK_1 _ ?_
  refine AW.sa fokW [] ⟨[(2, .ptr 1 0)], [(1, .var 78 (catV (cv25 x) [.map 2])), (2, .mp (List.map m84_35 m))], 4, Fr.emp, [], 0⟩ (by kernel_rfl) ?_
  obtain rfl := Option.some.inj h
  exact AW.ret (hR_0 _ (retXM (.cons (.agg rfl rfl (Nat.le_of_ble_eq_true rfl)) .nil) (FrzR.agg_of ⟨.of (.refl _), .of (.refl _), .of (.refl _), .of (.refl _), .of (.refl _), .mp rfl, trivial⟩) rfl (by kernel_rfl) (by kernel_rfl)))
def g58 (b_B : HairBook) (mf : List (Hair_dye × Span)) (n : Int) : Option Bool := (g57 n 0 (wr ((b_B.Hanks.length : Int) - 1))).bind fun r0 => some r0
theorem k58 (b_B : HairBook) (mf : List (Hair_dye × Span)) (n : Int) (r : Bool) (h : g58 b_B mf n = some r) : SCall Tryd.prog Gs 58 [.agg (hbm b_B mf), .d (I n)] [] 0 Fr.emp (.d (.bool r)) [] 0 Fr.emp := by
 unfold g58 at h
 refine SCall.mkK Tryd.func58 c58 rfl rfl (by kernel_rfl) (fun Q_0 hR_0 hN_0 => ?_)
 refine AW.sa fokW [] ⟨[(1, .d (I n)), (2, .ptr 0 0)], [(0, .var 78 (hbm b_B mf))], 1, Fr.emp, [], 0⟩ (by kernel_rfl) ?_
 refine AW.srwK (fun Q_1 hQ_1 => ?_)
 refine RW.au fokW 4 [] ⟨[(5, .d (I n)), (8, .d (.sl 4 (List.map e58 b_B.Hanks)))], [], 1, Fr.emp, [], 0⟩ (by kernel_rfl) ?_
 refine RW.one fokW (r_lenX trivial rfl lenm (r_end ?_))
 refine RW.au fokW 1 [] ⟨[(5, .d (I n)), (10, .d (I (wr ((b_B.Hanks.length : Int) - 1))))], [], 1, Fr.emp, [], 0⟩ (by kernel_rfl) ?_
 obtain ⟨r0, hx_2, h⟩ := bsome h
 refine RW.one fokW (r_call trivial rfl (k57 n 0 (wr ((b_B.Hanks.length : Int) - 1)) _ hx_2) rfl rfl (r_end ?_))
 refine RW.au fokW 1 [] ⟨[(4, .d (.bool r0))], [], 1, Fr.emp, [], 0⟩ (by kernel_rfl) ?_
 refine RW.nil ?_
 refine hQ_1 _ ?_
 obtain rfl := Option.some.inj h
 exact AW.ret (hR_0 _ (retX (.cons (.tmp rfl) .nil) (.refl _) rfl (by kernel_rfl) (by kernel_rfl)))
def g56 (b_B : HairBook) (mf : List (Hair_dye × Span)) (o0 : Int) (o1 : HairBook) (o2 : Int) (o3 : Int) : Option Bool := (g57 o0 0 (wr ((o1.Horses.length : Int) - 1))).bind fun r0 => (bif r0 then ((g58 b_B mf o2).bind fun r0_1 => some r0_1) else (some false)).bind fun v => (bif v then ((g58 b_B mf o3).bind fun r0_1_1 => some r0_1_1) else (some false)).bind fun v1 => some v1
theorem k56 (b_B : HairBook) (mf : List (Hair_dye × Span)) (o0 : Int) (o1 : HairBook) (o2 : Int) (o3 : Int) (r : Bool) (h : g56 b_B mf o0 o1 o2 o3 = some r) : SCall Tryd.prog Gs 56 [.agg (hbm b_B mf), .ptr 0 0, .ptr 1 0, .ptr 2 0, .ptr 3 0] [(0, .var 3 [.d (I o0)]), (1, .var 25 (cv25 o1)), (2, .var 3 [.d (I o2)]), (3, .var 3 [.d (I o3)])] 4 Fr.emp (.d (.bool r)) [(0, .var 3 [.d (I o0)]), (1, .var 25 (cv25 o1)), (2, .var 3 [.d (I o2)]), (3, .var 3 [.d (I o3)])] 4 Fr.emp := by
 unfold g56 at h
 refine SCall.mkK Tryd.func56 c56 rfl rfl (by kernel_rfl) (fun Q_0 hR_0 hN_0 => ?_)
 refine AW.sa fokW [] ⟨[(1, .ptr 0 0), (2, .ptr 1 0), (3, .ptr 2 0), (4, .ptr 3 0), (5, .ptr 4 0)], [(4, .var 78 (hbm b_B mf)), (0, .var 3 [.d (I o0)]), (1, .var 25 (cv25 o1)), (2, .var 3 [.d (I o2)]), (3, .var 3 [.d (I o3)])], 5, Fr.emp, [], 4⟩ (by kernel_rfl) ?_
 refine AW.srwK (fun Q_1 hQ_1 => ?_)
 refine RW.au fokW 3 [] ⟨[(3, .ptr 2 0), (4, .ptr 3 0), (5, .ptr 4 0), (7, .d (I o0)), (9, .d (.sl 3 (List.map e69 o1.Horses)))], [(4, .var 78 (hbm b_B mf)), (0, .var 3 [.d (I o0)]), (1, .var 25 (cv25 o1)), (2, .var 3 [.d (I o2)]), (3, .var 3 [.d (I o3)])], 5, Fr.emp, [], 4⟩ (by kernel_rfl) ?_
 refine RW.one fokW (r_lenX trivial rfl lenm (r_end ?_))
 refine RW.au fokW 1 [] ⟨[(3, .ptr 2 0), (4, .ptr 3 0), (5, .ptr 4 0), (7, .d (I o0)), (11, .d (I (wr ((o1.Horses.length : Int) - 1))))], [(4, .var 78 (hbm b_B mf)), (0, .var 3 [.d (I o0)]), (1, .var 25 (cv25 o1)), (2, .var 3 [.d (I o2)]), (3, .var 3 [.d (I o3)])], 5, Fr.emp, [], 4⟩ (by kernel_rfl) ?_
 obtain ⟨r0, hx_2, h⟩ := bsome h
 refine RW.one fokW (r_call trivial rfl (k57 o0 0 (wr ((o1.Horses.length : Int) - 1)) _ hx_2) rfl rfl (r_end ?_))
 refine RW.au fokW 1 [] ⟨[(3, .ptr 2 0), (4, .ptr 3 0), (5, .ptr 4 0), (13, .d (.bool r0))], [(4, .var 78 (hbm b_B mf)), (0, .var 3 [.d (I o0)]), (1, .var 25 (cv25 o1)), (2, .var 3 [.d (I o2)]), (3, .var 3 [.d (I o3)])], 5, Fr.emp, [], 4⟩ (by kernel_rfl) ?_
 obtain ⟨v, hx_3, h⟩ := bsome h
 refine RW.cut fokW 4 (⟨[(4, .ptr 3 0), (5, .ptr 4 0), (17, .d (.bool v))], [(4, .var 78 (hbm b_B mf)), (0, .var 3 [.d (I o0)]), (1, .var 25 (cv25 o1)), (2, .var 3 [.d (I o2)]), (3, .var 3 [.d (I o3)])], 5, Fr.emp, [], 4⟩) ?_ ?_
 ·refine r_split 13 rfl (fun hb_5 => ?_) (fun hb_5 => ?_)
  ·have h := ifT hb_5 hx_3
   refine RunC.auX 2 ⟨[(4, .ptr 3 0), (5, .ptr 4 0), (13, .d (.bool true)), (14, .agg (hbm b_B mf)), (15, .d (I o2))], [(4, .var 78 (hbm b_B mf)), (0, .var 3 [.d (I o0)]), (1, .var 25 (cv25 o1)), (2, .var 3 [.d (I o2)]), (3, .var 3 [.d (I o3)])], 5, Fr.emp, [], 4⟩ (by kernel_rfl) ?_
   obtain ⟨r0_1, hx_4, h⟩ := bsome h
   refine r_call rfl rfl (k58 b_B mf o2 _ hx_4) rfl rfl ?_
   refine RunC.auX 1 ⟨[(4, .ptr 3 0), (5, .ptr 4 0), (17, .d (.bool r0_1))], [(4, .var 78 (hbm b_B mf)), (0, .var 3 [.d (I o0)]), (1, .var 25 (cv25 o1)), (2, .var 3 [.d (I o2)]), (3, .var 3 [.d (I o3)])], 5, Fr.emp, [], 4⟩ (by kernel_rfl) ?_
   obtain rfl := Option.some.inj h
   refine RunC.finJ (Can.kp (by kernel_rfl))
  ·have h := ifF hb_5 hx_3
   refine RunC.auX 4 ⟨[(4, .ptr 3 0), (5, .ptr 4 0), (17, .d (.bool false))], [(4, .var 78 (hbm b_B mf)), (0, .var 3 [.d (I o0)]), (1, .var 25 (cv25 o1)), (2, .var 3 [.d (I o2)]), (3, .var 3 [.d (I o3)])], 5, Fr.emp, [], 4⟩ (by kernel_rfl) ?_
   obtain rfl := Option.some.inj h
   refine RunC.finJ (Can.kp (by kernel_rfl))
 ·refine RW.au fokW 1 [] ⟨[(4, .ptr 3 0), (5, .ptr 4 0), (18, .d (.bool v))], [(4, .var 78 (hbm b_B mf)), (0, .var 3 [.d (I o0)]), (1, .var 25 (cv25 o1)), (2, .var 3 [.d (I o2)]), (3, .var 3 [.d (I o3)])], 5, Fr.emp, [], 4⟩ (by kernel_rfl) ?_
  obtain ⟨v1, hx_6, h⟩ := bsome h
  refine RW.cut fokW 4 (⟨[(22, .d (.bool v1))], [(0, .var 3 [.d (I o0)]), (1, .var 25 (cv25 o1)), (2, .var 3 [.d (I o2)]), (3, .var 3 [.d (I o3)])], 5, Fr.emp, [], 4⟩) ?_ ?_
  ·refine r_split 18 rfl (fun hb_8 => ?_) (fun hb_8 => ?_)
   ·have h := ifT hb_8 hx_6
    refine RunC.auX 2 ⟨[(18, .d (.bool true)), (19, .agg (hbm b_B mf)), (20, .d (I o3))], [(4, .var 78 (hbm b_B mf)), (0, .var 3 [.d (I o0)]), (1, .var 25 (cv25 o1)), (2, .var 3 [.d (I o2)]), (3, .var 3 [.d (I o3)])], 5, Fr.emp, [], 4⟩ (by kernel_rfl) ?_
    obtain ⟨r0_1_1, hx_7, h⟩ := bsome h
    refine r_call rfl rfl (k58 b_B mf o3 _ hx_7) rfl rfl ?_
    refine RunC.auX 1 ⟨[(22, .d (.bool r0_1_1))], [(4, .var 78 (hbm b_B mf)), (0, .var 3 [.d (I o0)]), (1, .var 25 (cv25 o1)), (2, .var 3 [.d (I o2)]), (3, .var 3 [.d (I o3)])], 5, Fr.emp, [], 4⟩ (by kernel_rfl) ?_
    obtain rfl := Option.some.inj h
    refine RunC.finJ (Can.kp (by kernel_rfl))
   ·have h := ifF hb_8 hx_6
    refine RunC.auX 4 ⟨[(22, .d (.bool false))], [(4, .var 78 (hbm b_B mf)), (0, .var 3 [.d (I o0)]), (1, .var 25 (cv25 o1)), (2, .var 3 [.d (I o2)]), (3, .var 3 [.d (I o3)])], 5, Fr.emp, [], 4⟩ (by kernel_rfl) ?_
    obtain rfl := Option.some.inj h
    refine RunC.finJ (Can.kp (by kernel_rfl))
  ·refine RW.au fokW 1 [] ⟨[(6, .d (.bool v1))], [(0, .var 3 [.d (I o0)]), (1, .var 25 (cv25 o1)), (2, .var 3 [.d (I o2)]), (3, .var 3 [.d (I o3)])], 5, Fr.emp, [], 4⟩ (by kernel_rfl) ?_
   refine RW.nil ?_
   refine hQ_1 _ ?_
   obtain rfl := Option.some.inj h
   exact AW.ret (hR_0 _ (retX (.cons (.tmp rfl) .nil) (.refl _) rfl (by kernel_rfl) (by kernel_rfl)))
def g55 (x : HairBook) (o0 : Int) (o1 : HairBook) (o2 : Int) (o3 : Int) : Option (Ctl (HairBook × Int) (HairBook × (List (Hair_dye × Span)) × Int)) := (g17 x).bind fun r0_9 => bif (decide (r0_9 ≠ 0)) then (some (.next ((HairBook.mk [] [] 0 0 0), r0_9))) else ((g80 x).bind fun (r0_B, mf) => (g56 r0_B mf o0 o1 o2 o3).bind fun r0_2 => bif (!r0_2) then (some (.brk (r0_B, mf, 61))) else (some (.brk (r0_B, mf, 0))))
theorem k55 (x : HairBook) (o0 : Int) (o1 : HairBook) (o2 : Int) (o3 : Int) (r : Ctl (HairBook × Int) (HairBook × (List (Hair_dye × Span)) × Int)) (h : g55 x o0 o1 o2 o3 = some r) : SCall Tryd.prog Gs 55 [.agg (cv25 x), .clo 56 [] [.ptr 0 0, .ptr 1 0, .ptr 2 0, .ptr 3 0]] [(0, .var 3 [.d (I o0)]), (1, .var 25 (cv25 o1)), (2, .var 3 [.d (I o2)]), (3, .var 3 [.d (I o3)])] 4 Fr.emp (match r with | .next (r0_B4, r1_1) => .tup [.agg [.d (.sl 4 (List.map e58 r0_B4.Hanks)), .d (.sl 3 (List.map e69 r0_B4.Horses)), .d (I r0_B4.Dark), .d (I r0_B4.Near), .d (I r0_B4.Match), .d (.nilMap)], .d (I r1_1)] | .brk (r0_B5, mf2, r1_2) => .tup [.agg (hbm r0_B5 mf2), .d (I r1_2)]) (match r with | .next (r0_B4, r1_1) => [(0, .var 3 [.d (I o0)]), (1, .var 25 (cv25 o1)), (2, .var 3 [.d (I o2)]), (3, .var 3 [.d (I o3)])] | .brk (r0_B5, mf2, r1_2) => [(0, .var 3 [.d (I o0)]), (1, .var 25 (cv25 o1)), (2, .var 3 [.d (I o2)]), (3, .var 3 [.d (I o3)])]) 4 Fr.emp := by
 unfold g55 at h
 refine SCall.mkK Tryd.func55 c55 rfl (by rcases r with _ | _ <;> rfl) (by rcases r with _ | _ <;> kernel_rfl) (fun Q_0 hR_0 hN_0 => ?_)
 refine AW.sa fokW [] ⟨[(1, .clo 56 [] [.ptr 0 0, .ptr 1 0, .ptr 2 0, .ptr 3 0]), (2, .ptr 4 0), (4, .ptr 5 0)], [(5, .var 78 [.d (.nilSl), .d (.nilSl), .d (I 0), .d (I 0), .d (I 0), .d (.nilMap)]), (4, .var 25 (cv25 x)), (0, .var 3 [.d (I o0)]), (1, .var 25 (cv25 o1)), (2, .var 3 [.d (I o2)]), (3, .var 3 [.d (I o3)])], 6, Fr.emp, [], 4⟩ (by kernel_rfl) ?_
 refine AW.seqK (fun K_1 hK_1 => ?_)
 refine AW.srwK (fun Q_2 hQ_2 => ?_)
 refine RW.au fokW 1 [] ⟨[(1, .clo 56 [] [.ptr 0 0, .ptr 1 0, .ptr 2 0, .ptr 3 0]), (2, .ptr 4 0), (4, .ptr 5 0), (8, .agg (cv25 x))], [(5, .var 78 [.d (.nilSl), .d (.nilSl), .d (I 0), .d (I 0), .d (I 0), .d (.nilMap)]), (4, .var 25 (cv25 x)), (0, .var 3 [.d (I o0)]), (1, .var 25 (cv25 o1)), (2, .var 3 [.d (I o2)]), (3, .var 3 [.d (I o3)])], 6, Fr.emp, [], 4⟩ (by kernel_rfl) ?_
 obtain ⟨r0_9, hx_3, h⟩ := bsome h
 refine RW.one fokW (r_call trivial rfl (k17 x _ hx_3) rfl rfl (r_end ?_))
 refine RW.au fokW 1 [] ⟨[(1, .clo 56 [] [.ptr 0 0, .ptr 1 0, .ptr 2 0, .ptr 3 0]), (2, .ptr 4 0), (4, .ptr 5 0), (6, .d (I r0_9))], [(5, .var 78 [.d (.nilSl), .d (.nilSl), .d (I 0), .d (I 0), .d (I 0), .d (.nilMap)]), (4, .var 25 (cv25 x)), (0, .var 3 [.d (I o0)]), (1, .var 25 (cv25 o1)), (2, .var 3 [.d (I o2)]), (3, .var 3 [.d (I o3)])], 6, Fr.emp, [], 4⟩ (by kernel_rfl) ?_
 refine RW.nil ?_
 refine hQ_2 _ ?_
 refine AW.sa fokW [] ⟨[(1, .clo 56 [] [.ptr 0 0, .ptr 1 0, .ptr 2 0, .ptr 3 0]), (2, .ptr 4 0), (4, .ptr 5 0), (6, .d (I r0_9)), (11, .d (.bool (decide (r0_9 ≠ 0))))], [(5, .var 78 [.d (.nilSl), .d (.nilSl), .d (I 0), .d (I 0), .d (I 0), .d (.nilMap)]), (4, .var 25 (cv25 x)), (0, .var 3 [.d (I o0)]), (1, .var 25 (cv25 o1)), (2, .var 3 [.d (I o2)]), (3, .var 3 [.d (I o3)])], 6, Fr.emp, [], 4⟩ (by kernel_rfl) ?_
 refine AW.cond rfl (fun hb_4 => ?_) (fun hb_4 => ?_)
 ·have h := ifT hb_4 h
  refine AW.sa fokW [] ⟨[(4, .ptr 5 0), (5, .d (I r0_9))], [(5, .var 78 [.d (.nilSl), .d (.nilSl), .d (I 0), .d (I 0), .d (I 0), .d (.nilMap)]), (0, .var 3 [.d (I o0)]), (1, .var 25 (cv25 o1)), (2, .var 3 [.d (I o2)]), (3, .var 3 [.d (I o3)])], 6, Fr.emp, [], 4⟩ (by kernel_rfl) ?_
  obtain rfl := Option.some.inj h
  exact AW.ret (hR_0 _ (retX (.cons (.agg rfl rfl (Nat.le_of_ble_eq_true rfl)) (.cons (.tmp rfl) .nil)) (Frz.tup_of ⟨Frz.agg_of ⟨(.nil 4), (.nil 3), .refl _, .refl _, .refl _, .refl _, trivial⟩, .refl _, trivial⟩) rfl (by kernel_rfl) (by kernel_rfl)))
 ·have h := ifF hb_4 h
  refine AW.skip ?_
  refine hK_1 _ ?_
  refine AW.srwK (fun Q_5 hQ_5 => ?_)
  refine RW.au fokW 1 [] ⟨[(1, .clo 56 [] [.ptr 0 0, .ptr 1 0, .ptr 2 0, .ptr 3 0]), (4, .ptr 5 0), (14, .agg (cv25 x))], [(5, .var 78 [.d (.nilSl), .d (.nilSl), .d (I 0), .d (I 0), .d (I 0), .d (.nilMap)]), (0, .var 3 [.d (I o0)]), (1, .var 25 (cv25 o1)), (2, .var 3 [.d (I o2)]), (3, .var 3 [.d (I o3)])], 6, Fr.emp, [], 4⟩ (by kernel_rfl) ?_
  obtain ⟨⟨r0_B, mf⟩, hx_6, h⟩ := bsome h
  refine RW.one fokW (r_call trivial rfl (k80 x _ hx_6) rfl rfl (r_end ?_))
  refine RW.au fokW 2 [] ⟨[(1, .clo 56 [] [.ptr 0 0, .ptr 1 0, .ptr 2 0, .ptr 3 0]), (4, .ptr 5 0), (7, .ptr 6 0)], [(6, .var 78 (hbm r0_B mf)), (5, .var 78 [.d (.nilSl), .d (.nilSl), .d (I 0), .d (I 0), .d (I 0), .d (.nilMap)]), (0, .var 3 [.d (I o0)]), (1, .var 25 (cv25 o1)), (2, .var 3 [.d (I o2)]), (3, .var 3 [.d (I o3)])], 7, Fr.emp, [], 4⟩ (by kernel_rfl) ?_
  refine RW.nil ?_
  refine hQ_5 _ ?_
  refine AW.seqK (fun K_7 hK_7 => ?_)
  refine AW.srwK (fun Q_8 hQ_8 => ?_)
  refine RW.au fokW 2 [] ⟨[(4, .ptr 5 0), (7, .ptr 6 0), (16, .clo 56 [] [.ptr 0 0, .ptr 1 0, .ptr 2 0, .ptr 3 0]), (17, .agg (hbm r0_B mf))], [(6, .var 78 (hbm r0_B mf)), (5, .var 78 [.d (.nilSl), .d (.nilSl), .d (I 0), .d (I 0), .d (I 0), .d (.nilMap)]), (0, .var 3 [.d (I o0)]), (1, .var 25 (cv25 o1)), (2, .var 3 [.d (I o2)]), (3, .var 3 [.d (I o3)])], 7, Fr.emp, [], 4⟩ (by kernel_rfl) ?_
  obtain ⟨r0_2, hx_9, h⟩ := bsome h
  refine RW.one fokW (r_callvE (zr := []) [0, 1, 2, 3] trivial rfl (.clo _ _ _) (by kernel_rfl) rfl (k56 r0_B mf o0 o1 o2 o3 _ hx_9) ⟨rfl, rfl, rfl, rfl, trivial⟩ rfl rfl ⟨.refl _, .refl _, .refl _, .refl _, .refl _, trivial⟩ rfl rfl rfl (r_end ?_))
  refine RW.au fokW 1 [] ⟨[(4, .ptr 5 0), (7, .ptr 6 0), (19, .d (.bool (!r0_2)))], [(0, .var 3 [.d (I o0)]), (1, .var 25 (cv25 o1)), (2, .var 3 [.d (I o2)]), (3, .var 3 [.d (I o3)]), (6, .var 78 (hbm r0_B mf)), (5, .var 78 [.d (.nilSl), .d (.nilSl), .d (I 0), .d (I 0), .d (I 0), .d (.nilMap)])], 7, Fr.emp, [], 4⟩ (by kernel_rfl) ?_
  refine RW.nil ?_
  refine hQ_8 _ ?_
  refine AW.cond rfl (fun hb_10 => ?_) (fun hb_10 => ?_)
  ·have h := ifT hb_10 h
   refine AW.sa fokW [] ⟨[(4, .ptr 5 0), (5, .d (I 61))], [(5, .var 78 (hbm r0_B mf)), (0, .var 3 [.d (I o0)]), (1, .var 25 (cv25 o1)), (2, .var 3 [.d (I o2)]), (3, .var 3 [.d (I o3)])], 7, Fr.emp, [], 4⟩ (by kernel_rfl) ?_
   obtain rfl := Option.some.inj h
   exact AW.ret (hR_0 _ (retX (.cons (.agg rfl rfl (Nat.le_of_ble_eq_true rfl)) (.cons (.tmp rfl) .nil)) (.refl _) rfl (by kernel_rfl) (by kernel_rfl)))
  ·have h := ifF hb_10 h
   refine AW.skip ?_
   refine hK_7 _ ?_
   refine AW.sa fokW [] ⟨[(4, .ptr 5 0), (5, .d (I 0))], [(5, .var 78 (hbm r0_B mf)), (0, .var 3 [.d (I o0)]), (1, .var 25 (cv25 o1)), (2, .var 3 [.d (I o2)]), (3, .var 3 [.d (I o3)])], 7, Fr.emp, [], 4⟩ (by kernel_rfl) ?_
   obtain rfl := Option.some.inj h
   exact AW.ret (hR_0 _ (retX (.cons (.agg rfl rfl (Nat.le_of_ble_eq_true rfl)) (.cons (.tmp rfl) .nil)) (.refl _) rfl (by kernel_rfl) (by kernel_rfl)))
def g113_3 : Int → Int → Int → Option Int := fun v p first1 => some (max first1 p)
def g113 (first : Int) (l : (List Int)) : Option Int := (eachS g113_3 l 0 first).bind fun first1 => some first1
theorem k113 (first : Int) (l : (List Int)) (r : Int) (h : g113 first l = some r) : SCall Tryd.prog Gs 113 [.d (I first), .d (.sl 1 (List.map e3 l))] [] 0 Fr.emp (.d (I r)) [] 0 Fr.emp := by
 unfold g113 at h
 refine SCall.mkK Tryd.func113 c113 rfl rfl (by kernel_rfl) (fun Q_0 hR_0 hN_0 => ?_)
 refine AW.sa fokW [] ⟨[(0, .d (I first)), (1, .d (.sl 1 (List.map e3 l)))], [], 0, Fr.emp, [], 0⟩ (by kernel_rfl) ?_
 refine AW.seqK (fun K_1 hK_1 => ?_)
 refine AW.srwK (fun Q_2 hQ_2 => ?_)
 refine RW.au fokW 1 [] ⟨[(0, .d (I first)), (7, .d (.sl 1 (List.map e3 l)))], [], 0, Fr.emp, [], 0⟩ (by kernel_rfl) ?_
 refine RW.one fokW (r_lenX trivial rfl lenm (r_end ?_))
 refine RW.au fokW 1 [] ⟨[(0, .d (I first)), (7, .d (.sl 1 (List.map e3 l))), (8, .d (I (l.length : Int))), (9, .d (I 0))], [], 0, Fr.emp, [], 0⟩ (by kernel_rfl) ?_
 refine RW.nil ?_
 refine hQ_2 _ ?_
 refine AW.block ?_
 refine AW.sln (t := 7) rfl (fun hN_3 => ?_)
 rw [List.length_map] at hN_3
 obtain ⟨out_3, hx_3, h⟩ := bsome h
 refine AW.evSK (fun (v : Int) (first1 : Int) => ⟨[(0, .d (I first1)), (7, .d (.sl 1 (List.map e3 l))), (8, .d (I (l.length : Int))), (9, .d (I v))], [], 0, Fr.emp, [], 0⟩) g113_3 hx_3 (Can.kp (by kernel_rfl)) (fun v p first1 hi_3 hl_3 hp_3 c_3 h K_3 hK_3 => ?_) (fun v first1 hi_3 hl_3 hout => ?_)
 ·unfold g113_3 at h
  refine AW.sa fokW [] ⟨[(0, .d (I first1)), (7, .d (.sl 1 (List.map e3 l))), (8, .d (I (l.length : Int))), (9, .d (I v)), (10, .d (.bool (decide (v < (l.length : Int)))))], [], 0, Fr.emp, [], 0⟩ (by kernel_rfl) ?_
  refine AW.seqK (fun K_4 hK_4 => ?_)
  refine AW.cond rfl (fun hb_5 => ?_) (fun hb_5 => False.elim (by have := of_decide_eq_false hb_5; omega))
  refine AW.skip ?_
  refine hK_4 _ ?_
  refine AW.seqK (fun K_6 hK_6 => ?_)
  refine AW.block ?_
  refine AW.srwK (fun Q_7 hQ_7 => ?_)
  refine RW.one fokW (r_iaD trivial rfl rfl hi_3 (row := e3 p) (mapget hp_3) (r_end ?_))
  refine RW.au fokW 2 [] ⟨[(0, .d (I first1)), (6, .d (I p)), (7, .d (.sl 1 (List.map e3 l))), (8, .d (I (l.length : Int))), (9, .d (I v))], [], 0, Fr.emp, [], 0⟩ (by kernel_rfl) ?_
  refine RW.nil ?_
  refine hQ_7 _ ?_
  refine AW.ra fokW [] ⟨[(0, .d (I (max first1 p))), (7, .d (.sl 1 (List.map e3 l))), (8, .d (I (l.length : Int))), (9, .d (I v))], [], 0, Fr.emp, [], 0⟩ (by kernel_rfl) ?_
  refine hK_6 _ ?_
  refine AW.ra fokW [] ⟨[(0, .d (I (max first1 p))), (7, .d (.sl 1 (List.map e3 l))), (8, .d (I (l.length : Int))), (9, .d (I (wr (v + 1))))], [], 0, Fr.emp, [], 0⟩ (by kernel_rfl) ?_
  obtain rfl := Option.some.inj h
  have ew : wr (v + 1) = v + 1 := inext (N := (l.length : Int)) (by omega) (by omega) (by omega)
  rw [ew]
  exact hK_3 _ (Can.kp (by kernel_rfl))
 ·subst hout
  refine AW.sa fokW [] ⟨[(0, .d (I first1)), (7, .d (.sl 1 (List.map e3 l))), (8, .d (I (l.length : Int))), (9, .d (I v)), (10, .d (.bool (decide (v < (l.length : Int)))))], [], 0, Fr.emp, [], 0⟩ (by kernel_rfl) ?_
  refine AW.seqK (fun K_8 hK_8 => ?_)
  refine AW.cond rfl (fun hb_9 => False.elim (by have := of_decide_eq_true hb_9; omega)) (fun hb_9 => ?_)
  refine AW.exit ?_
  refine hK_1 _ ?_
  refine AW.sa fokW [] ⟨[(4, .d (I first1))], [], 0, Fr.emp, [], 0⟩ (by kernel_rfl) ?_
  obtain rfl := Option.some.inj h
  exact AW.ret (hR_0 _ (retX (.cons (.tmp rfl) .nil) (.refl _) rfl (by kernel_rfl) (by kernel_rfl)))
def g100 (b_B : HairBook) (mf : List (Hair_dye × Span)) (horse : Int) (mane : Hair_dye) (tail : Hair_dye) : Option Bool := (ixL b_B.Horses horse).bind fun p => (g113 (wr ((((mget q84 mf mane).getD (Span.mk 0 0)).High) - p.Shade)) [(wr (p.Shade - (((mget q84 mf mane).getD (Span.mk 0 0)).Low))), (wr ((((mget q84 mf tail).getD (Span.mk 0 0)).High) - p.Shade)), (wr (p.Shade - (((mget q84 mf tail).getD (Span.mk 0 0)).Low)))]).bind fun r0 => bif (decide (b_B.Near < r0)) then (some false) else (bif (decide (mane.hank = tail.hank)) then ((bif (false != ((mane.hank == tail.hank) && ((mane.steps == tail.steps) && true))) then (some true) else ((g57 (wr (mane.steps - tail.steps)) (wr (-b_B.Match)) b_B.Match).bind fun r0_1 => some r0_1)).bind fun v => some v) else ((g113 (wr ((((mget q84 mf mane).getD (Span.mk 0 0)).High) - (((mget q84 mf tail).getD (Span.mk 0 0)).Low))) [(wr ((((mget q84 mf tail).getD (Span.mk 0 0)).High) - (((mget q84 mf mane).getD (Span.mk 0 0)).Low)))]).bind fun r0_2 => some (decide (r0_2 ≤ b_B.Match))))
theorem k100 (b_B : HairBook) (mf : List (Hair_dye × Span)) (horse : Int) (mane : Hair_dye) (tail : Hair_dye) (r : Bool) (h : g100 b_B mf horse mane tail = some r) : SCall Tryd.prog Gs 100 [.agg (hbm b_B mf), .d (I horse), .agg [.d (I mane.hank), .d (I mane.steps)], .agg [.d (I tail.hank), .d (I tail.steps)]] [] 0 Fr.emp (.d (.bool r)) [] 0 Fr.emp := by
 unfold g100 at h
 refine SCall.mkK Tryd.func100 c100 rfl rfl (by kernel_rfl) (fun Q_0 hR_0 hN_0 => ?_)
 refine AW.sa fokW [] ⟨[(1, .d (I horse)), (4, .ptr 0 0), (6, .ptr 1 0), (7, .ptr 2 0)], [(2, .var 84 [.d (I tail.hank), .d (I tail.steps)]), (1, .var 84 [.d (I mane.hank), .d (I mane.steps)]), (0, .var 78 (hbm b_B mf))], 3, Fr.emp, [], 0⟩ (by kernel_rfl) ?_
 refine AW.srwK (fun Q_1 hQ_1 => ?_)
 refine RW.au fokW 4 [] ⟨[(4, .ptr 0 0), (6, .ptr 1 0), (7, .ptr 2 0), (14, .d (.sl 3 (List.map e69 b_B.Horses))), (15, .d (I horse))], [(2, .var 84 [.d (I tail.hank), .d (I tail.steps)]), (1, .var 84 [.d (I mane.hank), .d (I mane.steps)]), (0, .var 78 (hbm b_B mf))], 3, Fr.emp, [], 0⟩ (by kernel_rfl) ?_
 obtain ⟨p, hv_2, h⟩ := bsome h
 refine RW.one fokW (r_iaD trivial rfl rfl (ixL_ok hv_2).1 (row := e69 p) (mapget (ixL_ok hv_2).2) (r_end ?_))
 refine RW.au fokW 3 [] ⟨[(4, .ptr 0 0), (6, .ptr 1 0), (7, .ptr 2 0), (9, .d (I p.Shade))], [(2, .var 84 [.d (I tail.hank), .d (I tail.steps)]), (1, .var 84 [.d (I mane.hank), .d (I mane.steps)]), (0, .var 78 (hbm b_B mf))], 3, Fr.emp, [], 0⟩ (by kernel_rfl) ?_
 refine RW.nil ?_
 refine hQ_1 _ ?_
 refine AW.sdrwK fokW (fun Q_3 hQ_3 => ?_)
 refine RunC.auX 3 ⟨[(4, .ptr 0 0), (6, .ptr 1 0), (7, .ptr 2 0), (9, .d (I p.Shade)), (20, .fmp (List.map m84_35 mf)), (21, .agg [.d (I mane.hank), .d (I mane.steps)])], [(2, .var 84 [.d (I tail.hank), .d (I tail.steps)]), (1, .var 84 [.d (I mane.hank), .d (I mane.steps)]), (0, .var 78 (hbm b_B mf))], 3, Fr.emp, [], 0⟩ (by kernel_rfl) ?_
 refine r_lookFA q84 e84 e35 mf mane (Span.mk 0 0) trivial rfl rfl ft84 q84_ok (fun _ => rfl) rfl ?_
 refine RunC.auX 3 ⟨[(4, .ptr 0 0), (6, .ptr 1 0), (7, .ptr 2 0), (9, .d (I p.Shade)), (22, .agg [.d (I (((mget q84 mf mane).getD (Span.mk 0 0)).Low)), .d (I (((mget q84 mf mane).getD (Span.mk 0 0)).High))]), (24, .fmp (List.map m84_35 mf)), (25, .agg [.d (I tail.hank), .d (I tail.steps)])], [(2, .var 84 [.d (I tail.hank), .d (I tail.steps)]), (1, .var 84 [.d (I mane.hank), .d (I mane.steps)]), (0, .var 78 (hbm b_B mf))], 3, Fr.emp, [], 0⟩ (by kernel_rfl) ?_
 refine r_lookFA q84 e84 e35 mf tail (Span.mk 0 0) trivial rfl rfl ft84 q84_ok (fun _ => rfl) rfl ?_
 refine RunC.auX 4 ⟨[(4, .ptr 0 0), (6, .ptr 1 0), (7, .ptr 2 0), (9, .d (I p.Shade)), (10, .ptr 3 0), (11, .ptr 4 0)], [(4, .var 35 [.d (I (((mget q84 mf tail).getD (Span.mk 0 0)).Low)), .d (I (((mget q84 mf tail).getD (Span.mk 0 0)).High))]), (3, .var 35 [.d (I (((mget q84 mf mane).getD (Span.mk 0 0)).Low)), .d (I (((mget q84 mf mane).getD (Span.mk 0 0)).High))]), (2, .var 84 [.d (I tail.hank), .d (I tail.steps)]), (1, .var 84 [.d (I mane.hank), .d (I mane.steps)]), (0, .var 78 (hbm b_B mf))], 5, Fr.emp, [], 0⟩ (by kernel_rfl) ?_
 refine RunC.fin ⟨[(4, .ptr 0 0), (6, .ptr 1 0), (7, .ptr 2 0), (9, .d (I p.Shade)), (10, .ptr 3 0), (11, .ptr 4 0)], [(4, .var 35 [.d (I (((mget q84 mf tail).getD (Span.mk 0 0)).Low)), .d (I (((mget q84 mf tail).getD (Span.mk 0 0)).High))]), (3, .var 35 [.d (I (((mget q84 mf mane).getD (Span.mk 0 0)).Low)), .d (I (((mget q84 mf mane).getD (Span.mk 0 0)).High))]), (2, .var 84 [.d (I tail.hank), .d (I tail.steps)]), (1, .var 84 [.d (I mane.hank), .d (I mane.steps)]), (0, .var 78 (hbm b_B mf))], 5, Fr.emp, [], 0⟩ (by kernel_rfl) (by kernel_rfl) ?_
 refine hQ_3 _ ?_
 refine AW.seqK (fun K_4 hK_4 => ?_)
 refine AW.sdrwK fokW (fun Q_5 hQ_5 => ?_)
 refine RunC.auX 17 ⟨[(4, .ptr 0 0), (6, .ptr 1 0), (7, .ptr 2 0), (10, .ptr 3 0), (11, .ptr 4 0), (30, .d (I (wr ((((mget q84 mf mane).getD (Span.mk 0 0)).High) - p.Shade)))), (43, .own 5 (List.map e3 [(wr (p.Shade - (((mget q84 mf mane).getD (Span.mk 0 0)).Low))), (wr ((((mget q84 mf tail).getD (Span.mk 0 0)).High) - p.Shade)), (wr (p.Shade - (((mget q84 mf tail).getD (Span.mk 0 0)).Low)))]).length)], [(5, .row 3 1 (List.map e3 [(wr (p.Shade - (((mget q84 mf mane).getD (Span.mk 0 0)).Low))), (wr ((((mget q84 mf tail).getD (Span.mk 0 0)).High) - p.Shade)), (wr (p.Shade - (((mget q84 mf tail).getD (Span.mk 0 0)).Low)))])), (4, .var 35 [.d (I (((mget q84 mf tail).getD (Span.mk 0 0)).Low)), .d (I (((mget q84 mf tail).getD (Span.mk 0 0)).High))]), (3, .var 35 [.d (I (((mget q84 mf mane).getD (Span.mk 0 0)).Low)), .d (I (((mget q84 mf mane).getD (Span.mk 0 0)).High))]), (2, .var 84 [.d (I tail.hank), .d (I tail.steps)]), (1, .var 84 [.d (I mane.hank), .d (I mane.steps)]), (0, .var 78 (hbm b_B mf))], 6, Fr.emp, [], 0⟩ (by kernel_rfl) ?_
 obtain ⟨r0, hx_6, h⟩ := bsome h
 refine r_callF (rs := [(5, .row 3 1 (List.map e3 [(wr (p.Shade - (((mget q84 mf mane).getD (Span.mk 0 0)).Low))), (wr ((((mget q84 mf tail).getD (Span.mk 0 0)).High) - p.Shade)), (wr (p.Shade - (((mget q84 mf tail).getD (Span.mk 0 0)).Low)))]))]) trivial rfl (k113 (wr ((((mget q84 mf mane).getD (Span.mk 0 0)).High) - p.Shade)) [(wr (p.Shade - (((mget q84 mf mane).getD (Span.mk 0 0)).Low))), (wr ((((mget q84 mf tail).getD (Span.mk 0 0)).High) - p.Shade)), (wr (p.Shade - (((mget q84 mf tail).getD (Span.mk 0 0)).Low)))] _ hx_6) ⟨rfl, trivial⟩ ⟨.refl _, (.own rfl rfl), trivial⟩ rfl rfl rfl ?_
 refine RunC.auX 4 ⟨[(4, .ptr 0 0), (6, .ptr 1 0), (7, .ptr 2 0), (10, .ptr 3 0), (11, .ptr 4 0), (48, .d (.bool (decide (b_B.Near < r0))))], [(5, .row 3 1 (List.map e3 [(wr (p.Shade - (((mget q84 mf mane).getD (Span.mk 0 0)).Low))), (wr ((((mget q84 mf tail).getD (Span.mk 0 0)).High) - p.Shade)), (wr (p.Shade - (((mget q84 mf tail).getD (Span.mk 0 0)).Low)))])), (4, .var 35 [.d (I (((mget q84 mf tail).getD (Span.mk 0 0)).Low)), .d (I (((mget q84 mf tail).getD (Span.mk 0 0)).High))]), (3, .var 35 [.d (I (((mget q84 mf mane).getD (Span.mk 0 0)).Low)), .d (I (((mget q84 mf mane).getD (Span.mk 0 0)).High))]), (2, .var 84 [.d (I tail.hank), .d (I tail.steps)]), (1, .var 84 [.d (I mane.hank), .d (I mane.steps)]), (0, .var 78 (hbm b_B mf))], 6, Fr.emp, [], 0⟩ (by kernel_rfl) ?_
 refine RunC.fin ⟨[(4, .ptr 0 0), (6, .ptr 1 0), (7, .ptr 2 0), (10, .ptr 3 0), (11, .ptr 4 0), (48, .d (.bool (decide (b_B.Near < r0))))], [(4, .var 35 [.d (I (((mget q84 mf tail).getD (Span.mk 0 0)).Low)), .d (I (((mget q84 mf tail).getD (Span.mk 0 0)).High))]), (3, .var 35 [.d (I (((mget q84 mf mane).getD (Span.mk 0 0)).Low)), .d (I (((mget q84 mf mane).getD (Span.mk 0 0)).High))]), (2, .var 84 [.d (I tail.hank), .d (I tail.steps)]), (1, .var 84 [.d (I mane.hank), .d (I mane.steps)]), (0, .var 78 (hbm b_B mf))], 6, Fr.emp, [], 0⟩ (by kernel_rfl) (by kernel_rfl) ?_
 refine hQ_5 _ ?_
 refine AW.cond rfl (fun hb_7 => ?_) (fun hb_7 => ?_)
 ·have h := ifT hb_7 h
  refine AW.sa fokW [] ⟨[(8, .d (.bool false))], [], 6, Fr.emp, [], 0⟩ (by kernel_rfl) ?_
  obtain rfl := Option.some.inj h
  exact AW.ret (hR_0 _ (retX (.cons (.tmp rfl) .nil) (.refl _) rfl (by kernel_rfl) (by kernel_rfl)))
 ·have h := ifF hb_7 h
  refine AW.skip ?_
  refine hK_4 _ ?_
  refine AW.seqK (fun K_8 hK_8 => ?_)
  refine AW.sa fokW [] ⟨[(4, .ptr 0 0), (6, .ptr 1 0), (7, .ptr 2 0), (10, .ptr 3 0), (11, .ptr 4 0), (53, .d (.bool (decide (mane.hank = tail.hank))))], [(4, .var 35 [.d (I (((mget q84 mf tail).getD (Span.mk 0 0)).Low)), .d (I (((mget q84 mf tail).getD (Span.mk 0 0)).High))]), (3, .var 35 [.d (I (((mget q84 mf mane).getD (Span.mk 0 0)).Low)), .d (I (((mget q84 mf mane).getD (Span.mk 0 0)).High))]), (2, .var 84 [.d (I tail.hank), .d (I tail.steps)]), (1, .var 84 [.d (I mane.hank), .d (I mane.steps)]), (0, .var 78 (hbm b_B mf))], 6, Fr.emp, [], 0⟩ (by kernel_rfl) ?_
  refine AW.cond rfl (fun hb_9 => ?_) (fun hb_9 => ?_)
  ·have h := ifT hb_9 h
   refine AW.srwK (fun Q_10 hQ_10 => ?_)
   refine RW.au fokW 2 [] ⟨[(4, .ptr 0 0), (6, .ptr 1 0), (7, .ptr 2 0), (54, .agg [.d (I mane.hank), .d (I mane.steps)]), (55, .agg [.d (I tail.hank), .d (I tail.steps)])], [(2, .var 84 [.d (I tail.hank), .d (I tail.steps)]), (1, .var 84 [.d (I mane.hank), .d (I mane.steps)]), (0, .var 78 (hbm b_B mf))], 6, Fr.emp, [], 0⟩ (by kernel_rfl) ?_
   refine RW.one fokW (r_aeq trivial rfl rfl rfl rfl ft84 rfl rfl rfl (r_end ?_))
   refine RW.au fokW 1 [] ⟨[(4, .ptr 0 0), (6, .ptr 1 0), (7, .ptr 2 0), (57, .d (.bool (false != ((mane.hank == tail.hank) && ((mane.steps == tail.steps) && true)))))], [(2, .var 84 [.d (I tail.hank), .d (I tail.steps)]), (1, .var 84 [.d (I mane.hank), .d (I mane.steps)]), (0, .var 78 (hbm b_B mf))], 6, Fr.emp, [], 0⟩ (by kernel_rfl) ?_
   obtain ⟨v, hx_11, h⟩ := bsome h
   refine RW.cut fokW 14 (⟨[(71, .d (.bool v))], [], 6, Fr.emp, [], 0⟩) ?_ ?_
   ·refine r_split 57 rfl (fun hb_13 => ?_) (fun hb_13 => ?_)
    ·have h := ifT hb_13 hx_11
     refine RunC.auX 14 ⟨[(71, .d (.bool true))], [(2, .var 84 [.d (I tail.hank), .d (I tail.steps)]), (1, .var 84 [.d (I mane.hank), .d (I mane.steps)]), (0, .var 78 (hbm b_B mf))], 6, Fr.emp, [], 0⟩ (by kernel_rfl) ?_
     obtain rfl := Option.some.inj h
     refine RunC.finJ (Can.kp (by kernel_rfl))
    ·have h := ifF hb_13 hx_11
     refine RunC.auX 12 ⟨[(57, .d (.bool false)), (62, .d (I (wr (mane.steps - tail.steps)))), (66, .d (I (wr (-b_B.Match)))), (69, .d (I b_B.Match))], [(2, .var 84 [.d (I tail.hank), .d (I tail.steps)]), (1, .var 84 [.d (I mane.hank), .d (I mane.steps)]), (0, .var 78 (hbm b_B mf))], 6, Fr.emp, [], 0⟩ (by kernel_rfl) ?_
     obtain ⟨r0_1, hx_12, h⟩ := bsome h
     refine r_call rfl rfl (k57 (wr (mane.steps - tail.steps)) (wr (-b_B.Match)) b_B.Match _ hx_12) rfl rfl ?_
     refine RunC.auX 1 ⟨[(71, .d (.bool r0_1))], [(2, .var 84 [.d (I tail.hank), .d (I tail.steps)]), (1, .var 84 [.d (I mane.hank), .d (I mane.steps)]), (0, .var 78 (hbm b_B mf))], 6, Fr.emp, [], 0⟩ (by kernel_rfl) ?_
     obtain rfl := Option.some.inj h
     refine RunC.finJ (Can.kp (by kernel_rfl))
   ·refine RW.au fokW 1 [] ⟨[(8, .d (.bool v))], [], 6, Fr.emp, [], 0⟩ (by kernel_rfl) ?_
    refine RW.nil ?_
    refine hQ_10 _ ?_
    obtain rfl := Option.some.inj h
    exact AW.ret (hR_0 _ (retX (.cons (.tmp rfl) .nil) (.refl _) rfl (by kernel_rfl) (by kernel_rfl)))
  ·have h := ifF hb_9 h
   refine AW.skip ?_
   refine hK_8 _ ?_
   refine AW.sdrwK fokW (fun Q_14 hQ_14 => ?_)
   refine RunC.auX 11 ⟨[(4, .ptr 0 0), (76, .d (I (wr ((((mget q84 mf mane).getD (Span.mk 0 0)).High) - (((mget q84 mf tail).getD (Span.mk 0 0)).Low))))), (82, .own 6 (List.map e3 [(wr ((((mget q84 mf tail).getD (Span.mk 0 0)).High) - (((mget q84 mf mane).getD (Span.mk 0 0)).Low)))]).length)], [(6, .row 3 1 (List.map e3 [(wr ((((mget q84 mf tail).getD (Span.mk 0 0)).High) - (((mget q84 mf mane).getD (Span.mk 0 0)).Low)))])), (4, .var 35 [.d (I (((mget q84 mf tail).getD (Span.mk 0 0)).Low)), .d (I (((mget q84 mf tail).getD (Span.mk 0 0)).High))]), (3, .var 35 [.d (I (((mget q84 mf mane).getD (Span.mk 0 0)).Low)), .d (I (((mget q84 mf mane).getD (Span.mk 0 0)).High))]), (2, .var 84 [.d (I tail.hank), .d (I tail.steps)]), (1, .var 84 [.d (I mane.hank), .d (I mane.steps)]), (0, .var 78 (hbm b_B mf))], 7, Fr.emp, [], 0⟩ (by kernel_rfl) ?_
   obtain ⟨r0_2, hx_15, h⟩ := bsome h
   refine r_callF (rs := [(6, .row 3 1 (List.map e3 [(wr ((((mget q84 mf tail).getD (Span.mk 0 0)).High) - (((mget q84 mf mane).getD (Span.mk 0 0)).Low)))]))]) trivial rfl (k113 (wr ((((mget q84 mf mane).getD (Span.mk 0 0)).High) - (((mget q84 mf tail).getD (Span.mk 0 0)).Low))) [(wr ((((mget q84 mf tail).getD (Span.mk 0 0)).High) - (((mget q84 mf mane).getD (Span.mk 0 0)).Low)))] _ hx_15) ⟨rfl, trivial⟩ ⟨.refl _, (.own rfl rfl), trivial⟩ rfl rfl rfl ?_
   refine RunC.auX 5 ⟨[(8, .d (.bool (decide (r0_2 ≤ b_B.Match))))], [(6, .row 3 1 (List.map e3 [(wr ((((mget q84 mf tail).getD (Span.mk 0 0)).High) - (((mget q84 mf mane).getD (Span.mk 0 0)).Low)))])), (4, .var 35 [.d (I (((mget q84 mf tail).getD (Span.mk 0 0)).Low)), .d (I (((mget q84 mf tail).getD (Span.mk 0 0)).High))]), (3, .var 35 [.d (I (((mget q84 mf mane).getD (Span.mk 0 0)).Low)), .d (I (((mget q84 mf mane).getD (Span.mk 0 0)).High))]), (2, .var 84 [.d (I tail.hank), .d (I tail.steps)]), (1, .var 84 [.d (I mane.hank), .d (I mane.steps)]), (0, .var 78 (hbm b_B mf))], 7, Fr.emp, [], 0⟩ (by kernel_rfl) ?_
   refine RunC.fin ⟨[(8, .d (.bool (decide (r0_2 ≤ b_B.Match))))], [], 7, Fr.emp, [], 0⟩ (by kernel_rfl) (by kernel_rfl) ?_
   refine hQ_14 _ ?_
   obtain rfl := Option.some.inj h
   exact AW.ret (hR_0 _ (retX (.cons (.tmp rfl) .nil) (.refl _) rfl (by kernel_rfl) (by kernel_rfl)))
def g59_6 (b_B : HairBook) (mf : List (Hair_dye × Span)) (horse : Int) (mane : Int) (tail : Int) (v : Int) : Int → Unit → Option (Ctl (Unit) (Ctl (Unit) (Hair_dye × Hair_dye × Bool))) := fun v1 _ => (g100 b_B mf horse (Hair_dye.mk mane v) (Hair_dye.mk tail v1)).bind fun r0_5 => bif r0_5 then (some (.brk (.brk ((Hair_dye.mk mane v), (Hair_dye.mk tail v1), true)))) else (some (.next ()))
def g59_2 (b_B : HairBook) (mf : List (Hair_dye × Span)) (horse : Int) (mane : Int) (tail : Int) : Int → Unit → Option (Ctl (Unit) (Hair_dye × Hair_dye × Bool)) := fun v _ => bindC (forC (g59_6 b_B mf horse mane tail v) ((((wr (b_B.Dark + 1)) : Int) - 0).toNat) 0 ()) fun _ => some (.next ())
def g59 (b_B : HairBook) (mf : List (Hair_dye × Span)) (horse : Int) (mane : Int) (tail : Int) : Option (Hair_dye × Hair_dye × Bool) := bindC (forC (g59_2 b_B mf horse mane tail) ((((wr (b_B.Dark + 1)) : Int) - 0).toNat) 0 ()) fun _ => some ((Hair_dye.mk 0 0), (Hair_dye.mk 0 0), false)
theorem k59 (b_B : HairBook) (mf : List (Hair_dye × Span)) (horse : Int) (mane : Int) (tail : Int) (r : Hair_dye × Hair_dye × Bool) (h : g59 b_B mf horse mane tail = some r) : SCall Tryd.prog Gs 59 [.agg (hbm b_B mf), .d (I horse), .d (I mane), .d (I tail)] [] 0 Fr.emp (match r with | (r0_1, r1_1, r2_1) => .tup [.agg [.d (I r0_1.hank), .d (I r0_1.steps)], .agg [.d (I r1_1.hank), .d (I r1_1.steps)], .d (.bool r2_1)]) [] 0 Fr.emp := by
 unfold g59 at h
 refine SCall.mkK Tryd.func59 c59 rfl rfl (by kernel_rfl) (fun Q_0 hR_0 hN_0 => ?_)
 refine AW.sa fokW [] ⟨[(1, .d (I horse)), (2, .d (I mane)), (3, .d (I tail)), (4, .ptr 0 0), (8, .ptr 1 0), (9, .ptr 2 0)], [(2, .var 84 [.d (I 0), .d (I 0)]), (1, .var 84 [.d (I 0), .d (I 0)]), (0, .var 78 (hbm b_B mf))], 3, Fr.emp, [], 0⟩ (by kernel_rfl) ?_
 refine AW.sa fokW [] ⟨[(1, .d (I horse)), (2, .d (I mane)), (3, .d (I tail)), (4, .ptr 0 0), (8, .ptr 1 0), (9, .ptr 2 0), (11, .clo 100 [.agg (hbm b_B mf)] [])], [(2, .var 84 [.d (I 0), .d (I 0)]), (1, .var 84 [.d (I 0), .d (I 0)]), (0, .var 78 (hbm b_B mf))], 3, Fr.emp, [], 0⟩ (by kernel_rfl) ?_
 refine AW.seqK (fun K_1 hK_1 => ?_)
 refine AW.sa fokW [] ⟨[(1, .d (I horse)), (2, .d (I mane)), (3, .d (I tail)), (4, .ptr 0 0), (8, .ptr 1 0), (9, .ptr 2 0), (11, .clo 100 [.agg (hbm b_B mf)] []), (19, .d (I (wr (b_B.Dark + 1)))), (20, .d (I 0))], [(2, .var 84 [.d (I 0), .d (I 0)]), (1, .var 84 [.d (I 0), .d (I 0)]), (0, .var 78 (hbm b_B mf))], 3, Fr.emp, [], 0⟩ (by kernel_rfl) ?_
 refine AW.block ?_
 have hN_2 : (wr (b_B.Dark + 1)) ≤ 9223372036854775807 := (wr_range _).2
 obtain ⟨out_2, hx_2, hk_2⟩ := bsomeC h
 refine AW.lpCK (fun (v : Int) (_ : Unit) => ⟨[(1, .d (I horse)), (2, .d (I mane)), (3, .d (I tail)), (4, .ptr 0 0), (8, .ptr 1 0), (9, .ptr 2 0), (11, .clo 100 [.agg (hbm b_B mf)] []), (19, .d (I (wr (b_B.Dark + 1)))), (20, .d (I v))], [(2, .var 84 [.d (I 0), .d (I 0)]), (1, .var 84 [.d (I 0), .d (I 0)]), (0, .var 78 (hbm b_B mf))], 3, Fr.emp, [], 0⟩) (g59_2 b_B mf horse mane tail) ((wr (b_B.Dark + 1))) hx_2 (Can.kp (by kernel_rfl)) (fun v s_2 hi_2 hl_2 c_2 h hb_2 K_2 hK_2 => ?_) (fun v s_2 hi_2 hl_2 hout => ?_)
 ·unfold g59_2 at h
  refine AW.sa fokW [] ⟨[(1, .d (I horse)), (2, .d (I mane)), (3, .d (I tail)), (4, .ptr 0 0), (8, .ptr 1 0), (9, .ptr 2 0), (11, .clo 100 [.agg (hbm b_B mf)] []), (19, .d (I (wr (b_B.Dark + 1)))), (20, .d (I v)), (21, .d (.bool (decide (v < (wr (b_B.Dark + 1))))))], [(2, .var 84 [.d (I 0), .d (I 0)]), (1, .var 84 [.d (I 0), .d (I 0)]), (0, .var 78 (hbm b_B mf))], 3, Fr.emp, [], 0⟩ (by kernel_rfl) ?_
  refine AW.seqK (fun K_3 hK_3 => ?_)
  refine AW.cond rfl (fun hb_4 => ?_) (fun hb_4 => False.elim (by have := of_decide_eq_false hb_4; omega))
  refine AW.skip ?_
  refine hK_3 _ ?_
  refine AW.seqK (fun K_5 hK_5 => ?_)
  refine AW.block ?_
  refine AW.sa fokW [] ⟨[(1, .d (I horse)), (2, .d (I mane)), (3, .d (I tail)), (4, .ptr 0 0), (8, .ptr 1 0), (9, .ptr 2 0), (11, .clo 100 [.agg (hbm b_B mf)] []), (12, .d (I v)), (19, .d (I (wr (b_B.Dark + 1)))), (20, .d (I v))], [(2, .var 84 [.d (I 0), .d (I 0)]), (1, .var 84 [.d (I 0), .d (I 0)]), (0, .var 78 (hbm b_B mf))], 3, Fr.emp, [], 0⟩ (by kernel_rfl) ?_
  refine AW.sa fokW [] ⟨[(1, .d (I horse)), (2, .d (I mane)), (3, .d (I tail)), (4, .ptr 0 0), (8, .ptr 1 0), (9, .ptr 2 0), (11, .clo 100 [.agg (hbm b_B mf)] []), (12, .d (I v)), (19, .d (I (wr (b_B.Dark + 1)))), (20, .d (I v)), (26, .d (I (wr (b_B.Dark + 1)))), (27, .d (I 0))], [(2, .var 84 [.d (I 0), .d (I 0)]), (1, .var 84 [.d (I 0), .d (I 0)]), (0, .var 78 (hbm b_B mf))], 3, Fr.emp, [], 0⟩ (by kernel_rfl) ?_
  refine AW.block ?_
  have hN_6 : (wr (b_B.Dark + 1)) ≤ 9223372036854775807 := (wr_range _).2
  obtain ⟨out_6, hx_6, hk_6⟩ := bsomeC h
  refine AW.lpCK (fun (v1 : Int) (_ : Unit) => ⟨[(1, .d (I horse)), (2, .d (I mane)), (3, .d (I tail)), (4, .ptr 0 0), (8, .ptr 1 0), (9, .ptr 2 0), (11, .clo 100 [.agg (hbm b_B mf)] []), (12, .d (I v)), (19, .d (I (wr (b_B.Dark + 1)))), (20, .d (I v)), (26, .d (I (wr (b_B.Dark + 1)))), (27, .d (I v1))], [(2, .var 84 [.d (I 0), .d (I 0)]), (1, .var 84 [.d (I 0), .d (I 0)]), (0, .var 78 (hbm b_B mf))], 3, Fr.emp, [], 0⟩) (g59_6 b_B mf horse mane tail v) ((wr (b_B.Dark + 1))) hx_6 (Can.kp (by kernel_rfl)) (fun v1 s_6 hi_6 hl_6 c_6 h hb_6 K_6 hK_6 => ?_) (fun v1 s_6 hi_6 hl_6 hout => ?_)
  ·unfold g59_6 at h
   refine AW.sa fokW [] ⟨[(1, .d (I horse)), (2, .d (I mane)), (3, .d (I tail)), (4, .ptr 0 0), (8, .ptr 1 0), (9, .ptr 2 0), (11, .clo 100 [.agg (hbm b_B mf)] []), (12, .d (I v)), (19, .d (I (wr (b_B.Dark + 1)))), (20, .d (I v)), (26, .d (I (wr (b_B.Dark + 1)))), (27, .d (I v1)), (28, .d (.bool (decide (v1 < (wr (b_B.Dark + 1))))))], [(2, .var 84 [.d (I 0), .d (I 0)]), (1, .var 84 [.d (I 0), .d (I 0)]), (0, .var 78 (hbm b_B mf))], 3, Fr.emp, [], 0⟩ (by kernel_rfl) ?_
   refine AW.seqK (fun K_7 hK_7 => ?_)
   refine AW.cond rfl (fun hb_8 => ?_) (fun hb_8 => False.elim (by have := of_decide_eq_false hb_8; omega))
   refine AW.skip ?_
   refine hK_7 _ ?_
   refine AW.seqK (fun K_9 hK_9 => ?_)
   refine AW.block ?_
   refine AW.sa fokW [] ⟨[(1, .d (I horse)), (2, .d (I mane)), (3, .d (I tail)), (4, .ptr 0 0), (8, .ptr 1 0), (9, .ptr 2 0), (11, .clo 100 [.agg (hbm b_B mf)] []), (12, .d (I v)), (13, .d (I v1)), (19, .d (I (wr (b_B.Dark + 1)))), (20, .d (I v)), (26, .d (I (wr (b_B.Dark + 1)))), (27, .d (I v1))], [(2, .var 84 [.d (I 0), .d (I 0)]), (1, .var 84 [.d (I 0), .d (I 0)]), (0, .var 78 (hbm b_B mf))], 3, Fr.emp, [], 0⟩ (by kernel_rfl) ?_
   refine AW.srwK (fun Q_10 hQ_10 => ?_)
   refine RW.au fokW 8 [] ⟨[(1, .d (I horse)), (2, .d (I mane)), (3, .d (I tail)), (4, .ptr 0 0), (8, .ptr 1 0), (9, .ptr 2 0), (11, .clo 100 [.agg (hbm b_B mf)] []), (12, .d (I v)), (13, .d (I v1)), (19, .d (I (wr (b_B.Dark + 1)))), (20, .d (I v)), (26, .d (I (wr (b_B.Dark + 1)))), (27, .d (I v1)), (30, .clo 100 [.agg (hbm b_B mf)] []), (31, .d (I horse)), (34, .agg [.d (I mane), .d (I v)]), (37, .agg [.d (I tail), .d (I v1)])], [(2, .var 84 [.d (I 0), .d (I 0)]), (1, .var 84 [.d (I 0), .d (I 0)]), (0, .var 78 (hbm b_B mf))], 3, Fr.emp, [], 0⟩ (by kernel_rfl) ?_
   obtain ⟨r0_5, hx_11, h⟩ := bsome h
   refine RW.one fokW (r_callvZ (zr := []) trivial rfl (.clo _ _ _) (by kernel_rfl) rfl (k100 b_B mf horse (Hair_dye.mk mane v) (Hair_dye.mk tail v1) _ hx_11) trivial ⟨.refl _, .refl _, .refl _, .refl _, trivial⟩ rfl rfl rfl rfl (r_end ?_))
   refine RW.nil ?_
   refine hQ_10 _ ?_
   refine AW.cond rfl (fun hb_12 => ?_) (fun hb_12 => ?_)
   ·have h := ifT hb_12 h
    refine AW.sa fokW [] ⟨[(8, .ptr 1 0), (9, .ptr 2 0), (10, .d (.bool true))], [(2, .var 84 [.d (I tail), .d (I v1)]), (1, .var 84 [.d (I mane), .d (I v)])], 3, Fr.emp, [], 0⟩ (by kernel_rfl) ?_
    obtain rfl := Option.some.inj h
    have e_2 := hb_6 _ rfl
    subst e_2
    obtain rfl := Aft.bk hk_6
    have e_1 := hb_2 _ rfl
    subst e_1
    obtain rfl := Aft.bk hk_2
    exact AW.ret (hR_0 _ (retX (.cons (.agg rfl rfl (Nat.le_of_ble_eq_true rfl)) (.cons (.agg rfl rfl (Nat.le_of_ble_eq_true rfl)) (.cons (.tmp rfl) .nil))) (.refl _) rfl (by kernel_rfl) (by kernel_rfl)))
   ·have h := ifF hb_12 h
    refine AW.skip ?_
    refine hK_9 _ ?_
    refine AW.ra fokW [] ⟨[(1, .d (I horse)), (2, .d (I mane)), (3, .d (I tail)), (4, .ptr 0 0), (8, .ptr 1 0), (9, .ptr 2 0), (11, .clo 100 [.agg (hbm b_B mf)] []), (12, .d (I v)), (19, .d (I (wr (b_B.Dark + 1)))), (20, .d (I v)), (26, .d (I (wr (b_B.Dark + 1)))), (27, .d (I (wr (v1 + 1))))], [(2, .var 84 [.d (I 0), .d (I 0)]), (1, .var 84 [.d (I 0), .d (I 0)]), (0, .var 78 (hbm b_B mf))], 3, Fr.emp, [], 0⟩ (by kernel_rfl) ?_
    obtain rfl := Option.some.inj h
    have ew : wr (v1 + 1) = v1 + 1 := inext (N := (wr (b_B.Dark + 1))) (by omega) (by omega) (by omega)
    rw [ew]
    exact hK_6 _ _ rfl (Can.kp (by kernel_rfl))
  ·subst hout
   have h := Aft.nx hk_6
   refine AW.sa fokW [] ⟨[(1, .d (I horse)), (2, .d (I mane)), (3, .d (I tail)), (4, .ptr 0 0), (8, .ptr 1 0), (9, .ptr 2 0), (11, .clo 100 [.agg (hbm b_B mf)] []), (12, .d (I v)), (19, .d (I (wr (b_B.Dark + 1)))), (20, .d (I v)), (26, .d (I (wr (b_B.Dark + 1)))), (27, .d (I v1)), (28, .d (.bool (decide (v1 < (wr (b_B.Dark + 1))))))], [(2, .var 84 [.d (I 0), .d (I 0)]), (1, .var 84 [.d (I 0), .d (I 0)]), (0, .var 78 (hbm b_B mf))], 3, Fr.emp, [], 0⟩ (by kernel_rfl) ?_
   refine AW.seqK (fun K_13 hK_13 => ?_)
   refine AW.cond rfl (fun hb_14 => False.elim (by have := of_decide_eq_true hb_14; omega)) (fun hb_14 => ?_)
   refine AW.exit ?_
   refine hK_5 _ ?_
   refine AW.ra fokW [] ⟨[(1, .d (I horse)), (2, .d (I mane)), (3, .d (I tail)), (4, .ptr 0 0), (8, .ptr 1 0), (9, .ptr 2 0), (11, .clo 100 [.agg (hbm b_B mf)] []), (19, .d (I (wr (b_B.Dark + 1)))), (20, .d (I (wr (v + 1))))], [(2, .var 84 [.d (I 0), .d (I 0)]), (1, .var 84 [.d (I 0), .d (I 0)]), (0, .var 78 (hbm b_B mf))], 3, Fr.emp, [], 0⟩ (by kernel_rfl) ?_
   obtain rfl := Option.some.inj h
   have ew : wr (v + 1) = v + 1 := inext (N := (wr (b_B.Dark + 1))) (by omega) (by omega) (by omega)
   rw [ew]
   exact hK_2 _ _ rfl (Can.kp (by kernel_rfl))
 ·subst hout
  have h := Aft.nx hk_2
  refine AW.sa fokW [] ⟨[(1, .d (I horse)), (2, .d (I mane)), (3, .d (I tail)), (4, .ptr 0 0), (8, .ptr 1 0), (9, .ptr 2 0), (11, .clo 100 [.agg (hbm b_B mf)] []), (19, .d (I (wr (b_B.Dark + 1)))), (20, .d (I v)), (21, .d (.bool (decide (v < (wr (b_B.Dark + 1))))))], [(2, .var 84 [.d (I 0), .d (I 0)]), (1, .var 84 [.d (I 0), .d (I 0)]), (0, .var 78 (hbm b_B mf))], 3, Fr.emp, [], 0⟩ (by kernel_rfl) ?_
  refine AW.seqK (fun K_15 hK_15 => ?_)
  refine AW.cond rfl (fun hb_16 => False.elim (by have := of_decide_eq_true hb_16; omega)) (fun hb_16 => ?_)
  refine AW.exit ?_
  refine hK_1 _ ?_
  refine AW.sa fokW [] ⟨[(8, .ptr 1 0), (9, .ptr 2 0), (10, .d (.bool false))], [(2, .var 84 [.d (I 0), .d (I 0)]), (1, .var 84 [.d (I 0), .d (I 0)])], 3, Fr.emp, [], 0⟩ (by kernel_rfl) ?_
  obtain rfl := Option.some.inj h
  exact AW.ret (hR_0 _ (retX (.cons (.agg rfl rfl (Nat.le_of_ble_eq_true rfl)) (.cons (.agg rfl rfl (Nat.le_of_ble_eq_true rfl)) (.cons (.tmp rfl) .nil))) (.refl _) rfl (by kernel_rfl) (by kernel_rfl)))
def g15 (x : HairBook) (horse : Int) (mane : Int) (tail : Int) : Option (Int × Int × Int) := (g55 x horse x mane tail).bind fun r_12 => match r_12 with | .next (r0_B4, r1_1) => (must (decide (r1_1 ≠ 0))).bind fun _ => some (0, 0, r1_1) | .brk (r0_B5, mf2, r1_2) => bif (decide (r1_2 ≠ 0)) then (some (0, 0, r1_2)) else ((g59 r0_B5 mf2 horse mane tail).bind fun (r0_1, r1_1_1, r2_1) => bif (!r2_1) then (some (0, 0, 4)) else (some (r0_1.steps, r1_1_1.steps, 0)))
theorem k15 (x : HairBook) (horse : Int) (mane : Int) (tail : Int) (r : Int × Int × Int) (h : g15 x horse mane tail = some r) : SCall Tryd.prog Gs 15 [.agg (cv25 x), .d (I horse), .d (I mane), .d (I tail)] [] 0 Fr.emp (match r with | (r0_4, r1_5, r2_4) => .tup [.d (I r0_4), .d (I r1_5), .d (I r2_4)]) [] 0 Fr.emp := by
 unfold g15 at h
 refine SCall.mkK Tryd.func15 c15 rfl rfl (by kernel_rfl) (fun Q_0 hR_0 hN_0 => ?_)
 refine AW.sa fokW [] ⟨[(4, .ptr 0 0), (5, .ptr 1 0), (6, .ptr 2 0), (7, .ptr 3 0)], [(3, .var 3 [.d (I tail)]), (2, .var 3 [.d (I mane)]), (1, .var 3 [.d (I horse)]), (0, .var 25 (cv25 x))], 4, Fr.emp, [], 0⟩ (by kernel_rfl) ?_
 refine AW.srwK (fun Q_1 hQ_1 => ?_)
 refine RW.au fokW 2 [] ⟨[(5, .ptr 1 0), (6, .ptr 2 0), (7, .ptr 3 0), (17, .agg (cv25 x)), (18, .clo 56 [] [.ptr 1 0, .ptr 0 0, .ptr 2 0, .ptr 3 0])], [(3, .var 3 [.d (I tail)]), (2, .var 3 [.d (I mane)]), (1, .var 3 [.d (I horse)]), (0, .var 25 (cv25 x))], 4, Fr.emp, [], 0⟩ (by kernel_rfl) ?_
 obtain ⟨r_12, hx_2, h⟩ := bsome h
 rcases r_12 with (⟨r0_B4, r1_1⟩ | (⟨r0_B5, mf2, r1_2⟩))
 ·refine RW.one fokW (r_callS (zr := []) [1, 0, 2, 3] trivial rfl (k55 x horse x mane tail _ hx_2) ⟨rfl, rfl, rfl, rfl, trivial⟩ rfl rfl ⟨.refl _, .refl _, trivial⟩ rfl rfl rfl (r_end ?_))
  obtain ⟨_, hv_3, h⟩ := bsome h
  have hf_4 := must_ok hv_3
  refine RW.au fokW 6 [] ⟨[(5, .ptr 1 0), (6, .ptr 2 0), (7, .ptr 3 0), (11, .ptr 4 0), (12, .d (I r1_1))], [(4, .var 78 (catV (cv25 r0_B4) [.d (.nilMap)])), (1, .var 3 [.d (I horse)]), (2, .var 3 [.d (I mane)]), (3, .var 3 [.d (I tail)])], 5, Fr.emp, [], 0⟩ (by kernel_rfl) ?_
  refine RW.nil ?_
  refine hQ_1 _ ?_
  refine AW.seqK (fun K_5 hK_5 => ?_)
  refine AW.sa fokW [] ⟨[(5, .ptr 1 0), (6, .ptr 2 0), (7, .ptr 3 0), (11, .ptr 4 0), (12, .d (I r1_1)), (23, .d (.bool (decide (r1_1 ≠ 0))))], [(4, .var 78 (catV (cv25 r0_B4) [.d (.nilMap)])), (1, .var 3 [.d (I horse)]), (2, .var 3 [.d (I mane)]), (3, .var 3 [.d (I tail)])], 5, Fr.emp, [], 0⟩ (by kernel_rfl) ?_
  refine AW.cond rfl (fun hb_6 => ?_) (fun hb_6 => False.elim (by rw [hf_4] at hb_6; cases hb_6))
  refine AW.sa fokW [] ⟨[(8, .d (I 0)), (9, .d (I 0)), (10, .d (I r1_1))], [], 5, Fr.emp, [], 0⟩ (by kernel_rfl) ?_
  obtain rfl := Option.some.inj h
  exact AW.ret (hR_0 _ (retX (.cons (.tmp rfl) (.cons (.tmp rfl) (.cons (.tmp rfl) .nil))) (.refl _) rfl (by kernel_rfl) (by kernel_rfl)))
 ·refine RW.one fokW (r_callS (zr := []) [1, 0, 2, 3] trivial rfl (k55 x horse x mane tail _ hx_2) ⟨rfl, rfl, rfl, rfl, trivial⟩ rfl rfl ⟨.refl _, .refl _, trivial⟩ rfl rfl rfl (r_end ?_))
  refine RW.au fokW 6 [] ⟨[(5, .ptr 1 0), (6, .ptr 2 0), (7, .ptr 3 0), (11, .ptr 4 0), (12, .d (I r1_2))], [(4, .var 78 (hbm r0_B5 mf2)), (1, .var 3 [.d (I horse)]), (2, .var 3 [.d (I mane)]), (3, .var 3 [.d (I tail)])], 5, Fr.emp, [], 0⟩ (by kernel_rfl) ?_
  refine RW.nil ?_
  refine hQ_1 _ ?_
  refine AW.seqK (fun K_7 hK_7 => ?_)
  refine AW.sa fokW [] ⟨[(5, .ptr 1 0), (6, .ptr 2 0), (7, .ptr 3 0), (11, .ptr 4 0), (12, .d (I r1_2)), (23, .d (.bool (decide (r1_2 ≠ 0))))], [(4, .var 78 (hbm r0_B5 mf2)), (1, .var 3 [.d (I horse)]), (2, .var 3 [.d (I mane)]), (3, .var 3 [.d (I tail)])], 5, Fr.emp, [], 0⟩ (by kernel_rfl) ?_
  refine AW.cond rfl (fun hb_8 => ?_) (fun hb_8 => ?_)
  ·have h := ifT hb_8 h
   refine AW.sa fokW [] ⟨[(8, .d (I 0)), (9, .d (I 0)), (10, .d (I r1_2))], [], 5, Fr.emp, [], 0⟩ (by kernel_rfl) ?_
   obtain rfl := Option.some.inj h
   exact AW.ret (hR_0 _ (retX (.cons (.tmp rfl) (.cons (.tmp rfl) (.cons (.tmp rfl) .nil))) (.refl _) rfl (by kernel_rfl) (by kernel_rfl)))
  ·have h := ifF hb_8 h
   refine AW.skip ?_
   refine hK_7 _ ?_
   refine AW.srwK (fun Q_9 hQ_9 => ?_)
   refine RW.au fokW 4 [] ⟨[(26, .agg (hbm r0_B5 mf2)), (27, .d (I horse)), (28, .d (I mane)), (29, .d (I tail))], [], 5, Fr.emp, [], 0⟩ (by kernel_rfl) ?_
   obtain ⟨⟨r0_1, r1_1_1, r2_1⟩, hx_10, h⟩ := bsome h
   refine RW.one fokW (r_call trivial rfl (k59 r0_B5 mf2 horse mane tail _ hx_10) rfl rfl (r_end ?_))
   refine RW.au fokW 9 [] ⟨[(13, .ptr 5 0), (14, .ptr 6 0), (15, .d (.bool r2_1))], [(6, .var 84 [.d (I r1_1_1.hank), .d (I r1_1_1.steps)]), (5, .var 84 [.d (I r0_1.hank), .d (I r0_1.steps)])], 7, Fr.emp, [], 0⟩ (by kernel_rfl) ?_
   refine RW.nil ?_
   refine hQ_9 _ ?_
   refine AW.seqK (fun K_11 hK_11 => ?_)
   refine AW.sa fokW [] ⟨[(13, .ptr 5 0), (14, .ptr 6 0), (35, .d (.bool (!r2_1)))], [(6, .var 84 [.d (I r1_1_1.hank), .d (I r1_1_1.steps)]), (5, .var 84 [.d (I r0_1.hank), .d (I r0_1.steps)])], 7, Fr.emp, [], 0⟩ (by kernel_rfl) ?_
   refine AW.cond rfl (fun hb_12 => ?_) (fun hb_12 => ?_)
   ·have h := ifT hb_12 h
    refine AW.sa fokW [] ⟨[(8, .d (I 0)), (9, .d (I 0)), (10, .d (I 4))], [], 7, Fr.emp, [], 0⟩ (by kernel_rfl) ?_
    obtain rfl := Option.some.inj h
    exact AW.ret (hR_0 _ (retX (.cons (.tmp rfl) (.cons (.tmp rfl) (.cons (.tmp rfl) .nil))) (.refl _) rfl (by kernel_rfl) (by kernel_rfl)))
   ·have h := ifF hb_12 h
    refine AW.skip ?_
    refine hK_11 _ ?_
    refine AW.sa fokW [] ⟨[(8, .d (I r0_1.steps)), (9, .d (I r1_1_1.steps)), (10, .d (I 0))], [], 7, Fr.emp, [], 0⟩ (by kernel_rfl) ?_
    obtain rfl := Option.some.inj h
    exact AW.ret (hR_0 _ (retX (.cons (.tmp rfl) (.cons (.tmp rfl) (.cons (.tmp rfl) .nil))) (.refl _) rfl (by kernel_rfl) (by kernel_rfl)))
def g50 (n : Int) (first : Int) (last : Int) : Option Bool := some ((decide (first ≤ n)) && (decide (n ≤ last)))
theorem k50 (n : Int) (first : Int) (last : Int) (r : Bool) (h : g50 n first last = some r) : SCall Tryd.prog Gs 50 [.d (I n), .d (I first), .d (I last)] [] 0 Fr.emp (.d (.bool r)) [] 0 Fr.emp := by
 unfold g50 at h
 refine SCall.mkK Tryd.func50 c50 rfl rfl (by kernel_rfl) (fun Q_0 hR_0 hN_0 => ?_)
 refine AW.sa fokW [] ⟨[(0, .d (I n)), (1, .d (I first)), (2, .d (I last))], [], 0, Fr.emp, [], 0⟩ (by kernel_rfl) ?_
 refine AW.sa fokW [10] ⟨[(6, .d (.bool ((decide (first ≤ n)) && (decide (n ≤ last)))))], [], 0, Fr.emp, [], 0⟩ (by kernel_rfl) ?_
 obtain rfl := Option.some.inj h
 exact AW.ret (hR_0 _ (retX (.cons (.tmp rfl) .nil) (.refl _) rfl (by kernel_rfl) (by kernel_rfl)))
def g64 (s : Span) (first : Int) (last : Int) : Option Bool := some (((decide (first ≤ s.Low)) && (decide (s.Low ≤ s.High))) && (decide (s.High ≤ last)))
theorem k64 (s : Span) (first : Int) (last : Int) (r : Bool) (h : g64 s first last = some r) : SCall Tryd.prog Gs 64 [.agg [.d (I s.Low), .d (I s.High)], .d (I first), .d (I last)] [] 0 Fr.emp (.d (.bool r)) [] 0 Fr.emp := by
 unfold g64 at h
 refine SCall.mkK Tryd.func64 c64 rfl rfl (by kernel_rfl) (fun Q_0 hR_0 hN_0 => ?_)
 refine AW.sa fokW [] ⟨[(1, .d (I first)), (2, .d (I last)), (3, .ptr 0 0)], [(0, .var 35 [.d (I s.Low), .d (I s.High)])], 1, Fr.emp, [], 0⟩ (by kernel_rfl) ?_
 refine AW.sa fokW [11, 18] ⟨[(6, .d (.bool (((decide (first ≤ s.Low)) && (decide (s.Low ≤ s.High))) && (decide (s.High ≤ last)))))], [], 1, Fr.emp, [], 0⟩ (by kernel_rfl) ?_
 obtain rfl := Option.some.inj h
 exact AW.ret (hR_0 _ (retX (.cons (.tmp rfl) .nil) (.refl _) rfl (by kernel_rfl) (by kernel_rfl)))
end Go.Proofs.Th
namespace Go.Proofs.Th
open Go Go.Abs Go.Proofs
def g103 (n : Int) (o0_B : HairBook) (mf : List (Hair_dye × Span)) : Option Bool := (g58 o0_B mf n).bind fun r0_1 => some (!r0_1)
theorem k103 (n : Int) (o0_B : HairBook) (mf : List (Hair_dye × Span)) (r : Bool) (h : g103 n o0_B mf = some r) : SCall Tryd.prog Gs 103 [.d (I n), .ptr 0 0] [(0, .var 78 (hbm o0_B mf))] 1 Fr.emp (.d (.bool r)) [(0, .var 78 (hbm o0_B mf))] 1 Fr.emp := by
 unfold g103 at h
 refine SCall.mkK Tryd.func103 c103 rfl rfl (by kernel_rfl) (fun Q_0 hR_0 hN_0 => ?_)
 refine AW.sa fokW [] ⟨[(0, .d (I n)), (1, .ptr 0 0)], [(0, .var 78 (hbm o0_B mf))], 1, Fr.emp, [], 1⟩ (by kernel_rfl) ?_
 refine AW.srwK (fun Q_1 hQ_1 => ?_)
 refine RW.au fokW 2 [] ⟨[(4, .agg (hbm o0_B mf)), (5, .d (I n))], [(0, .var 78 (hbm o0_B mf))], 1, Fr.emp, [], 1⟩ (by kernel_rfl) ?_
 obtain ⟨r0_1, hx_2, h⟩ := bsome h
 refine RW.one fokW (r_call trivial rfl (k58 o0_B mf n _ hx_2) rfl rfl (r_end ?_))
 refine RW.au fokW 2 [] ⟨[(3, .d (.bool (!r0_1)))], [(0, .var 78 (hbm o0_B mf))], 1, Fr.emp, [], 1⟩ (by kernel_rfl) ?_
 refine RW.nil ?_
 refine hQ_1 _ ?_
 obtain rfl := Option.some.inj h
 exact AW.ret (hR_0 _ (retX (.cons (.tmp rfl) .nil) (.refl _) rfl (by kernel_rfl) (by kernel_rfl)))
def g115_3 (o0_B : HairBook) (mf : List (Hair_dye × Span)) : Int → Int → Unit → Option (Ctl (Unit) (Int)) := fun v p _ => (g103 p o0_B mf).bind fun r0 => bif r0 then (some (.brk v)) else (some (.next ()))
def g115 (s : (List Int)) (o0_B : HairBook) (mf : List (Hair_dye × Span)) : Option Int := bindC (eachC (g115_3 o0_B mf) s 0 ()) fun _ => some (-1)
theorem k115 (s : (List Int)) (o0_B : HairBook) (mf : List (Hair_dye × Span)) (r : Int) (h : g115 s o0_B mf = some r) : SCall Tryd.prog Gs 115 [.d (.sl 1 (List.map e3 s)), .clo 103 [] [.ptr 0 0]] [(0, .var 78 (hbm o0_B mf))] 1 Fr.emp (.d (I r)) [(0, .var 78 (hbm o0_B mf))] 1 Fr.emp := by
 unfold g115 at h
 refine SCall.mkK Tryd.func115 c115 rfl rfl (by kernel_rfl) (fun Q_0 hR_0 hN_0 => ?_)
 refine AW.sa fokW [] ⟨[(0, .d (.sl 1 (List.map e3 s))), (1, .clo 103 [] [.ptr 0 0])], [(0, .var 78 (hbm o0_B mf))], 1, Fr.emp, [], 1⟩ (by kernel_rfl) ?_
 refine AW.seqK (fun K_1 hK_1 => ?_)
 refine AW.srwK (fun Q_2 hQ_2 => ?_)
 refine RW.au fokW 1 [] ⟨[(0, .d (.sl 1 (List.map e3 s))), (1, .clo 103 [] [.ptr 0 0]), (6, .d (.sl 1 (List.map e3 s)))], [(0, .var 78 (hbm o0_B mf))], 1, Fr.emp, [], 1⟩ (by kernel_rfl) ?_
 refine RW.one fokW (r_lenX trivial rfl lenm (r_end ?_))
 refine RW.au fokW 1 [] ⟨[(0, .d (.sl 1 (List.map e3 s))), (1, .clo 103 [] [.ptr 0 0]), (7, .d (I (s.length : Int))), (8, .d (I 0))], [(0, .var 78 (hbm o0_B mf))], 1, Fr.emp, [], 1⟩ (by kernel_rfl) ?_
 refine RW.nil ?_
 refine hQ_2 _ ?_
 refine AW.block ?_
 refine AW.sln (t := 0) rfl (fun hN_3 => ?_)
 rw [List.length_map] at hN_3
 obtain ⟨out_3, hx_3, hk_3⟩ := bsomeC h
 refine AW.evCK (fun (v : Int) (_ : Unit) => ⟨[(0, .d (.sl 1 (List.map e3 s))), (1, .clo 103 [] [.ptr 0 0]), (7, .d (I (s.length : Int))), (8, .d (I v))], [(0, .var 78 (hbm o0_B mf))], 1, Fr.emp, [], 1⟩) (g115_3 o0_B mf) hx_3 (Can.kp (by kernel_rfl)) (fun v p s_3 hi_3 hl_3 hp_3 c_3 h hb_3 K_3 hK_3 => ?_) (fun v s_3 hi_3 hl_3 hout => ?_)
 ·unfold g115_3 at h
  refine AW.sa fokW [] ⟨[(0, .d (.sl 1 (List.map e3 s))), (1, .clo 103 [] [.ptr 0 0]), (7, .d (I (s.length : Int))), (8, .d (I v)), (9, .d (.bool (decide (v < (s.length : Int)))))], [(0, .var 78 (hbm o0_B mf))], 1, Fr.emp, [], 1⟩ (by kernel_rfl) ?_
  refine AW.seqK (fun K_4 hK_4 => ?_)
  refine AW.cond rfl (fun hb_5 => ?_) (fun hb_5 => False.elim (by have := of_decide_eq_false hb_5; omega))
  refine AW.skip ?_
  refine hK_4 _ ?_
  refine AW.seqK (fun K_6 hK_6 => ?_)
  refine AW.block ?_
  refine AW.sa fokW [] ⟨[(0, .d (.sl 1 (List.map e3 s))), (1, .clo 103 [] [.ptr 0 0]), (5, .d (I v)), (7, .d (I (s.length : Int))), (8, .d (I v))], [(0, .var 78 (hbm o0_B mf))], 1, Fr.emp, [], 1⟩ (by kernel_rfl) ?_
  refine AW.srwK (fun Q_7 hQ_7 => ?_)
  refine RW.au fokW 3 [] ⟨[(0, .d (.sl 1 (List.map e3 s))), (1, .clo 103 [] [.ptr 0 0]), (5, .d (I v)), (7, .d (I (s.length : Int))), (8, .d (I v)), (11, .clo 103 [] [.ptr 0 0]), (12, .d (.sl 1 (List.map e3 s))), (13, .d (I v))], [(0, .var 78 (hbm o0_B mf))], 1, Fr.emp, [], 1⟩ (by kernel_rfl) ?_
  refine RW.one fokW (r_iaD trivial rfl rfl hi_3 (row := e3 p) (mapget hp_3) (r_end ?_))
  refine RW.au fokW 1 [] ⟨[(0, .d (.sl 1 (List.map e3 s))), (1, .clo 103 [] [.ptr 0 0]), (5, .d (I v)), (7, .d (I (s.length : Int))), (8, .d (I v)), (11, .clo 103 [] [.ptr 0 0]), (15, .d (I p))], [(0, .var 78 (hbm o0_B mf))], 1, Fr.emp, [], 1⟩ (by kernel_rfl) ?_
  obtain ⟨r0, hx_8, h⟩ := bsome h
  refine RW.one fokW (r_callvE (zr := []) [0] trivial rfl (.clo _ _ _) (by kernel_rfl) rfl (k103 p o0_B mf _ hx_8) ⟨rfl, trivial⟩ rfl rfl ⟨.refl _, .refl _, trivial⟩ rfl rfl rfl (r_end ?_))
  refine RW.nil ?_
  refine hQ_7 _ ?_
  refine AW.cond rfl (fun hb_9 => ?_) (fun hb_9 => ?_)
  ·have h := ifT hb_9 h
   refine AW.sa fokW [] ⟨[(4, .d (I v))], [(0, .var 78 (hbm o0_B mf))], 1, Fr.emp, [], 1⟩ (by kernel_rfl) ?_
   obtain rfl := Option.some.inj h
   have e_1 := hb_3 _ rfl
   subst e_1
   obtain rfl := Aft.bk hk_3
   exact AW.ret (hR_0 _ (retX (.cons (.tmp rfl) .nil) (.refl _) rfl (by kernel_rfl) (by kernel_rfl)))
  ·have h := ifF hb_9 h
   refine AW.skip ?_
   refine hK_6 _ ?_
   refine AW.ra fokW [] ⟨[(0, .d (.sl 1 (List.map e3 s))), (1, .clo 103 [] [.ptr 0 0]), (7, .d (I (s.length : Int))), (8, .d (I (wr (v + 1))))], [(0, .var 78 (hbm o0_B mf))], 1, Fr.emp, [], 1⟩ (by kernel_rfl) ?_
   obtain rfl := Option.some.inj h
   have ew : wr (v + 1) = v + 1 := inext (N := (s.length : Int)) (by omega) (by omega) (by omega)
   rw [ew]
   exact hK_3 _ _ rfl (Can.kp (by kernel_rfl))
 ·subst hout
  have h := Aft.nx hk_3
  refine AW.sa fokW [] ⟨[(0, .d (.sl 1 (List.map e3 s))), (1, .clo 103 [] [.ptr 0 0]), (7, .d (I (s.length : Int))), (8, .d (I v)), (9, .d (.bool (decide (v < (s.length : Int)))))], [(0, .var 78 (hbm o0_B mf))], 1, Fr.emp, [], 1⟩ (by kernel_rfl) ?_
  refine AW.seqK (fun K_10 hK_10 => ?_)
  refine AW.cond rfl (fun hb_11 => False.elim (by have := of_decide_eq_true hb_11; omega)) (fun hb_11 => ?_)
  refine AW.exit ?_
  refine hK_1 _ ?_
  refine AW.sa fokW [] ⟨[(4, .d (I (-1)))], [(0, .var 78 (hbm o0_B mf))], 1, Fr.emp, [], 1⟩ (by kernel_rfl) ?_
  obtain rfl := Option.some.inj h
  exact AW.ret (hR_0 _ (retX (.cons (.tmp rfl) .nil) (.refl _) rfl (by kernel_rfl) (by kernel_rfl)))
def g102 (s : (List Int)) (o0_B : HairBook) (mf : List (Hair_dye × Span)) : Option Bool := (g115 s o0_B mf).bind fun r0_2 => some (decide (0 ≤ r0_2))
theorem k102 (s : (List Int)) (o0_B : HairBook) (mf : List (Hair_dye × Span)) (r : Bool) (h : g102 s o0_B mf = some r) : SCall Tryd.prog Gs 102 [.d (.sl 1 (List.map e3 s)), .clo 103 [] [.ptr 0 0]] [(0, .var 78 (hbm o0_B mf))] 1 Fr.emp (.d (.bool r)) [(0, .var 78 (hbm o0_B mf))] 1 Fr.emp := by
 unfold g102 at h
 refine SCall.mkK Tryd.func102 c102 rfl rfl (by kernel_rfl) (fun Q_0 hR_0 hN_0 => ?_)
 refine AW.sa fokW [] ⟨[(0, .d (.sl 1 (List.map e3 s))), (1, .clo 103 [] [.ptr 0 0])], [(0, .var 78 (hbm o0_B mf))], 1, Fr.emp, [], 1⟩ (by kernel_rfl) ?_
 refine AW.srwK (fun Q_1 hQ_1 => ?_)
 refine RW.au fokW 2 [] ⟨[(5, .d (.sl 1 (List.map e3 s))), (6, .clo 103 [] [.ptr 0 0])], [(0, .var 78 (hbm o0_B mf))], 1, Fr.emp, [], 1⟩ (by kernel_rfl) ?_
 obtain ⟨r0_2, hx_2, h⟩ := bsome h
 refine RW.one fokW (r_callS (zr := []) [0] trivial rfl (k115 s o0_B mf _ hx_2) ⟨rfl, trivial⟩ rfl rfl ⟨.refl _, .refl _, trivial⟩ rfl rfl rfl (r_end ?_))
 refine RW.au fokW 2 [] ⟨[(4, .d (.bool (decide (0 ≤ r0_2))))], [(0, .var 78 (hbm o0_B mf))], 1, Fr.emp, [], 1⟩ (by kernel_rfl) ?_
 refine RW.nil ?_
 refine hQ_1 _ ?_
 obtain rfl := Option.some.inj h
 exact AW.ret (hR_0 _ (retX (.cons (.tmp rfl) .nil) (.refl _) rfl (by kernel_rfl) (by kernel_rfl)))
def g66 (b_B : HairBook) (mf : List (Hair_dye × Span)) (plan : (List Int)) : Option Bool := (bif (decide ((plan.length : Int) = (wr (2 * (b_B.Horses.length : Int))))) then ((g102 plan b_B mf).bind fun r0 => some (!r0)) else (some false)).bind fun v => some v
theorem k66 (b_B : HairBook) (mf : List (Hair_dye × Span)) (plan : (List Int)) (r : Bool) (h : g66 b_B mf plan = some r) : SCall Tryd.prog Gs 66 [.agg (hbm b_B mf), .d (.sl 1 (List.map e3 plan))] [] 0 Fr.emp (.d (.bool r)) [] 0 Fr.emp := by
 unfold g66 at h
 refine SCall.mkK Tryd.func66 c66 rfl rfl (by kernel_rfl) (fun Q_0 hR_0 hN_0 => ?_)
 refine AW.sa fokW [] ⟨[(1, .d (.sl 1 (List.map e3 plan))), (2, .ptr 0 0)], [(0, .var 78 (hbm b_B mf))], 1, Fr.emp, [], 0⟩ (by kernel_rfl) ?_
 refine AW.srwK (fun Q_1 hQ_1 => ?_)
 refine RW.au fokW 1 [] ⟨[(1, .d (.sl 1 (List.map e3 plan))), (2, .ptr 0 0), (5, .d (.sl 1 (List.map e3 plan)))], [(0, .var 78 (hbm b_B mf))], 1, Fr.emp, [], 0⟩ (by kernel_rfl) ?_
 refine RW.one fokW (r_lenX trivial rfl lenm (r_end ?_))
 refine RW.au fokW 3 [] ⟨[(1, .d (.sl 1 (List.map e3 plan))), (2, .ptr 0 0), (6, .d (I (plan.length : Int))), (9, .d (.sl 3 (List.map e69 b_B.Horses)))], [(0, .var 78 (hbm b_B mf))], 1, Fr.emp, [], 0⟩ (by kernel_rfl) ?_
 refine RW.one fokW (r_lenX trivial rfl lenm (r_end ?_))
 refine RW.au fokW 3 [] ⟨[(1, .d (.sl 1 (List.map e3 plan))), (2, .ptr 0 0), (13, .d (.bool (decide ((plan.length : Int) = (wr (2 * (b_B.Horses.length : Int)))))))], [(0, .var 78 (hbm b_B mf))], 1, Fr.emp, [], 0⟩ (by kernel_rfl) ?_
 obtain ⟨v, hx_2, h⟩ := bsome h
 refine RW.cut fokW 5 (⟨[(18, .d (.bool v))], [], 1, Fr.emp, [], 0⟩) ?_ ?_
 ·refine r_split 13 rfl (fun hb_4 => ?_) (fun hb_4 => ?_)
  ·have h := ifT hb_4 hx_2
   refine RunC.auX 2 ⟨[(13, .d (.bool true)), (14, .d (.sl 1 (List.map e3 plan))), (15, .clo 103 [] [.ptr 0 0])], [(0, .var 78 (hbm b_B mf))], 1, Fr.emp, [], 0⟩ (by kernel_rfl) ?_
   obtain ⟨r0, hx_3, h⟩ := bsome h
   refine r_callS (zr := []) [0] rfl rfl (k102 plan b_B mf _ hx_3) ⟨rfl, trivial⟩ rfl rfl ⟨.refl _, .refl _, trivial⟩ rfl rfl rfl ?_
   refine RunC.auX 2 ⟨[(18, .d (.bool (!r0)))], [(0, .var 78 (hbm b_B mf))], 1, Fr.emp, [], 0⟩ (by kernel_rfl) ?_
   obtain rfl := Option.some.inj h
   refine RunC.finJ (Can.kp (by kernel_rfl))
  ·have h := ifF hb_4 hx_2
   refine RunC.auX 5 ⟨[(18, .d (.bool false))], [(0, .var 78 (hbm b_B mf))], 1, Fr.emp, [], 0⟩ (by kernel_rfl) ?_
   obtain rfl := Option.some.inj h
   refine RunC.finJ (Can.kp (by kernel_rfl))
 ·refine RW.au fokW 1 [] ⟨[(4, .d (.bool v))], [], 1, Fr.emp, [], 0⟩ (by kernel_rfl) ?_
  refine RW.nil ?_
  refine hQ_1 _ ?_
  obtain rfl := Option.some.inj h
  exact AW.ret (hR_0 _ (retX (.cons (.tmp rfl) .nil) (.refl _) rfl (by kernel_rfl) (by kernel_rfl)))
def g65 (b_B : HairBook) (mf : List (Hair_dye × Span)) (o0 : (List Int)) : Option Bool := (g66 b_B mf o0).bind fun r0_1 => some r0_1
theorem k65 (b_B : HairBook) (mf : List (Hair_dye × Span)) (o0 : (List Int)) (r : Bool) (h : g65 b_B mf o0 = some r) : SCall Tryd.prog Gs 65 [.agg (hbm b_B mf), .ptr 0 0] [(0, .var 26 [.d (.sl 1 (List.map e3 o0))])] 1 Fr.emp (.d (.bool r)) [(0, .var 26 [.d (.sl 1 (List.map e3 o0))])] 1 Fr.emp := by
 unfold g65 at h
 refine SCall.mkK Tryd.func65 c65 rfl rfl (by kernel_rfl) (fun Q_0 hR_0 hN_0 => ?_)
 refine AW.sa fokW [] ⟨[(1, .ptr 0 0), (2, .ptr 1 0)], [(1, .var 78 (hbm b_B mf)), (0, .var 26 [.d (.sl 1 (List.map e3 o0))])], 2, Fr.emp, [], 1⟩ (by kernel_rfl) ?_
 refine AW.srwK (fun Q_1 hQ_1 => ?_)
 refine RW.au fokW 2 [] ⟨[(4, .agg (hbm b_B mf)), (5, .d (.sl 1 (List.map e3 o0)))], [(0, .var 26 [.d (.sl 1 (List.map e3 o0))])], 2, Fr.emp, [], 1⟩ (by kernel_rfl) ?_
 obtain ⟨r0_1, hx_2, h⟩ := bsome h
 refine RW.one fokW (r_call trivial rfl (k66 b_B mf o0 _ hx_2) rfl rfl (r_end ?_))
 refine RW.au fokW 1 [] ⟨[(3, .d (.bool r0_1))], [(0, .var 26 [.d (.sl 1 (List.map e3 o0))])], 2, Fr.emp, [], 1⟩ (by kernel_rfl) ?_
 refine RW.nil ?_
 refine hQ_1 _ ?_
 obtain rfl := Option.some.inj h
 exact AW.ret (hR_0 _ (retX (.cons (.tmp rfl) .nil) (.refl _) rfl (by kernel_rfl) (by kernel_rfl)))
def g55a (x : HairBook) (o0 : (List Int)) : Option (Ctl (HairBook × Int) (HairBook × (List (Hair_dye × Span)) × Int)) := (g17 x).bind fun r0_9 => bif (decide (r0_9 ≠ 0)) then (some (.next ((HairBook.mk [] [] 0 0 0), r0_9))) else ((g80 x).bind fun (r0_B, mf) => (g65 r0_B mf o0).bind fun r0 => bif (!r0) then (some (.brk (r0_B, mf, 61))) else (some (.brk (r0_B, mf, 0))))
theorem k55a (x : HairBook) (o0 : (List Int)) (r : Ctl (HairBook × Int) (HairBook × (List (Hair_dye × Span)) × Int)) (h : g55a x o0 = some r) : SCall Tryd.prog Gs 55 [.agg (cv25 x), .clo 65 [] [.ptr 0 0]] [(0, .var 26 [.d (.sl 1 (List.map e3 o0))])] 1 Fr.emp (match r with | .next (r0_B4, r1_1) => .tup [.agg [.d (.sl 4 (List.map e58 r0_B4.Hanks)), .d (.sl 3 (List.map e69 r0_B4.Horses)), .d (I r0_B4.Dark), .d (I r0_B4.Near), .d (I r0_B4.Match), .d (.nilMap)], .d (I r1_1)] | .brk (r0_B5, mf2, r1_2) => .tup [.agg (hbm r0_B5 mf2), .d (I r1_2)]) (match r with | .next (r0_B4, r1_1) => [(0, .var 26 [.d (.sl 1 (List.map e3 o0))])] | .brk (r0_B5, mf2, r1_2) => [(0, .var 26 [.d (.sl 1 (List.map e3 o0))])]) 1 Fr.emp := by
 unfold g55a at h
 refine SCall.mkK Tryd.func55 c55 rfl (by rcases r with _ | _ <;> rfl) (by rcases r with _ | _ <;> kernel_rfl) (fun Q_0 hR_0 hN_0 => ?_)
 refine AW.sa fokW [] ⟨[(1, .clo 65 [] [.ptr 0 0]), (2, .ptr 1 0), (4, .ptr 2 0)], [(2, .var 78 [.d (.nilSl), .d (.nilSl), .d (I 0), .d (I 0), .d (I 0), .d (.nilMap)]), (1, .var 25 (cv25 x)), (0, .var 26 [.d (.sl 1 (List.map e3 o0))])], 3, Fr.emp, [], 1⟩ (by kernel_rfl) ?_
 refine AW.seqK (fun K_1 hK_1 => ?_)
 refine AW.srwK (fun Q_2 hQ_2 => ?_)
 refine RW.au fokW 1 [] ⟨[(1, .clo 65 [] [.ptr 0 0]), (2, .ptr 1 0), (4, .ptr 2 0), (8, .agg (cv25 x))], [(2, .var 78 [.d (.nilSl), .d (.nilSl), .d (I 0), .d (I 0), .d (I 0), .d (.nilMap)]), (1, .var 25 (cv25 x)), (0, .var 26 [.d (.sl 1 (List.map e3 o0))])], 3, Fr.emp, [], 1⟩ (by kernel_rfl) ?_
 obtain ⟨r0_9, hx_3, h⟩ := bsome h
 refine RW.one fokW (r_call trivial rfl (k17 x _ hx_3) rfl rfl (r_end ?_))
 refine RW.au fokW 1 [] ⟨[(1, .clo 65 [] [.ptr 0 0]), (2, .ptr 1 0), (4, .ptr 2 0), (6, .d (I r0_9))], [(2, .var 78 [.d (.nilSl), .d (.nilSl), .d (I 0), .d (I 0), .d (I 0), .d (.nilMap)]), (1, .var 25 (cv25 x)), (0, .var 26 [.d (.sl 1 (List.map e3 o0))])], 3, Fr.emp, [], 1⟩ (by kernel_rfl) ?_
 refine RW.nil ?_
 refine hQ_2 _ ?_
 refine AW.sa fokW [] ⟨[(1, .clo 65 [] [.ptr 0 0]), (2, .ptr 1 0), (4, .ptr 2 0), (6, .d (I r0_9)), (11, .d (.bool (decide (r0_9 ≠ 0))))], [(2, .var 78 [.d (.nilSl), .d (.nilSl), .d (I 0), .d (I 0), .d (I 0), .d (.nilMap)]), (1, .var 25 (cv25 x)), (0, .var 26 [.d (.sl 1 (List.map e3 o0))])], 3, Fr.emp, [], 1⟩ (by kernel_rfl) ?_
 refine AW.cond rfl (fun hb_4 => ?_) (fun hb_4 => ?_)
 ·have h := ifT hb_4 h
  refine AW.sa fokW [] ⟨[(4, .ptr 2 0), (5, .d (I r0_9))], [(2, .var 78 [.d (.nilSl), .d (.nilSl), .d (I 0), .d (I 0), .d (I 0), .d (.nilMap)]), (0, .var 26 [.d (.sl 1 (List.map e3 o0))])], 3, Fr.emp, [], 1⟩ (by kernel_rfl) ?_
  obtain rfl := Option.some.inj h
  exact AW.ret (hR_0 _ (retX (.cons (.agg rfl rfl (Nat.le_of_ble_eq_true rfl)) (.cons (.tmp rfl) .nil)) (Frz.tup_of ⟨Frz.agg_of ⟨(.nil 4), (.nil 3), .refl _, .refl _, .refl _, .refl _, trivial⟩, .refl _, trivial⟩) rfl (by kernel_rfl) (by kernel_rfl)))
 ·have h := ifF hb_4 h
  refine AW.skip ?_
  refine hK_1 _ ?_
  refine AW.srwK (fun Q_5 hQ_5 => ?_)
  refine RW.au fokW 1 [] ⟨[(1, .clo 65 [] [.ptr 0 0]), (4, .ptr 2 0), (14, .agg (cv25 x))], [(2, .var 78 [.d (.nilSl), .d (.nilSl), .d (I 0), .d (I 0), .d (I 0), .d (.nilMap)]), (0, .var 26 [.d (.sl 1 (List.map e3 o0))])], 3, Fr.emp, [], 1⟩ (by kernel_rfl) ?_
  obtain ⟨⟨r0_B, mf⟩, hx_6, h⟩ := bsome h
  refine RW.one fokW (r_call trivial rfl (k80 x _ hx_6) rfl rfl (r_end ?_))
  refine RW.au fokW 2 [] ⟨[(1, .clo 65 [] [.ptr 0 0]), (4, .ptr 2 0), (7, .ptr 3 0)], [(3, .var 78 (hbm r0_B mf)), (2, .var 78 [.d (.nilSl), .d (.nilSl), .d (I 0), .d (I 0), .d (I 0), .d (.nilMap)]), (0, .var 26 [.d (.sl 1 (List.map e3 o0))])], 4, Fr.emp, [], 1⟩ (by kernel_rfl) ?_
  refine RW.nil ?_
  refine hQ_5 _ ?_
  refine AW.seqK (fun K_7 hK_7 => ?_)
  refine AW.srwK (fun Q_8 hQ_8 => ?_)
  refine RW.au fokW 2 [] ⟨[(4, .ptr 2 0), (7, .ptr 3 0), (16, .clo 65 [] [.ptr 0 0]), (17, .agg (hbm r0_B mf))], [(3, .var 78 (hbm r0_B mf)), (2, .var 78 [.d (.nilSl), .d (.nilSl), .d (I 0), .d (I 0), .d (I 0), .d (.nilMap)]), (0, .var 26 [.d (.sl 1 (List.map e3 o0))])], 4, Fr.emp, [], 1⟩ (by kernel_rfl) ?_
  obtain ⟨r0, hx_9, h⟩ := bsome h
  refine RW.one fokW (r_callvE (zr := []) [0] trivial rfl (.clo _ _ _) (by kernel_rfl) rfl (k65 r0_B mf o0 _ hx_9) ⟨rfl, trivial⟩ rfl rfl ⟨.refl _, .refl _, trivial⟩ rfl rfl rfl (r_end ?_))
  refine RW.au fokW 1 [] ⟨[(4, .ptr 2 0), (7, .ptr 3 0), (19, .d (.bool (!r0)))], [(0, .var 26 [.d (.sl 1 (List.map e3 o0))]), (3, .var 78 (hbm r0_B mf)), (2, .var 78 [.d (.nilSl), .d (.nilSl), .d (I 0), .d (I 0), .d (I 0), .d (.nilMap)])], 4, Fr.emp, [], 1⟩ (by kernel_rfl) ?_
  refine RW.nil ?_
  refine hQ_8 _ ?_
  refine AW.cond rfl (fun hb_10 => ?_) (fun hb_10 => ?_)
  ·have h := ifT hb_10 h
   refine AW.sa fokW [] ⟨[(4, .ptr 2 0), (5, .d (I 61))], [(2, .var 78 (hbm r0_B mf)), (0, .var 26 [.d (.sl 1 (List.map e3 o0))])], 4, Fr.emp, [], 1⟩ (by kernel_rfl) ?_
   obtain rfl := Option.some.inj h
   exact AW.ret (hR_0 _ (retX (.cons (.agg rfl rfl (Nat.le_of_ble_eq_true rfl)) (.cons (.tmp rfl) .nil)) (.refl _) rfl (by kernel_rfl) (by kernel_rfl)))
  ·have h := ifF hb_10 h
   refine AW.skip ?_
   refine hK_7 _ ?_
   refine AW.sa fokW [] ⟨[(4, .ptr 2 0), (5, .d (I 0))], [(2, .var 78 (hbm r0_B mf)), (0, .var 26 [.d (.sl 1 (List.map e3 o0))])], 4, Fr.emp, [], 1⟩ (by kernel_rfl) ?_
   obtain rfl := Option.some.inj h
   exact AW.ret (hR_0 _ (retX (.cons (.agg rfl rfl (Nat.le_of_ble_eq_true rfl)) (.cons (.tmp rfl) .nil)) (.refl _) rfl (by kernel_rfl) (by kernel_rfl)))
def g105  : Option (Nat → Int) := some (arrL [0, 0, 0, 0, 0])
theorem k105  (r : (Nat → Int)) (h : g105 = some r) : SCall Tryd.prog Gs 105 [] [] 0 Fr.emp (.agg (c5 r)) [] 0 Fr.emp := by
 unfold g105 at h
 refine SCall.mkK Tryd.func105 c105 rfl rfl (by kernel_rfl) (fun Q_0 hR_0 hN_0 => ?_)
 refine AW.sa fokW [] ⟨[(0, .ptr 0 0)], [(0, .var 92 [.d (I 0), .d (I 0), .d (I 0), .d (I 0), .d (I 0)])], 1, Fr.emp, [], 0⟩ (by kernel_rfl) ?_
 refine AW.sa fokW [] ⟨[(0, .ptr 0 0), (1, .ptr 1 0)], [(1, .var 92 [.d (I 0), .d (I 0), .d (I 0), .d (I 0), .d (I 0)]), (0, .var 92 [.d (I 0), .d (I 0), .d (I 0), .d (I 0), .d (I 0)])], 2, Fr.emp, [], 0⟩ (by kernel_rfl) ?_
 refine AW.sa fokW [] ⟨[(0, .ptr 0 0)], [(0, .var 92 [.d (I 0), .d (I 0), .d (I 0), .d (I 0), .d (I 0)])], 2, Fr.emp, [], 0⟩ (by kernel_rfl) ?_
 obtain rfl := Option.some.inj h
 exact AW.ret (hR_0 _ (retX (.cons (.agg rfl rfl (Nat.le_of_ble_eq_true rfl)) .nil) (.refl _) rfl (by kernel_rfl) (by kernel_rfl)))
def g133 (h_ : HairHorse) : Option Int := some h_.Mane
theorem k133 (h_ : HairHorse) (r : Int) (h : g133 h_ = some r) : SCall Tryd.prog Gs 133 [.agg [.d (I h_.Mane), .d (I h_.Tail), .d (I h_.Shade)]] [] 0 Fr.emp (.d (I r)) [] 0 Fr.emp := by
 unfold g133 at h
 refine SCall.mkK Tryd.func133 c133 rfl rfl (by kernel_rfl) (fun Q_0 hR_0 hN_0 => ?_)
 refine AW.sa fokW [] ⟨[(1, .ptr 0 0)], [(0, .var 124 [.d (I h_.Mane), .d (I h_.Tail), .d (I h_.Shade)])], 1, Fr.emp, [], 0⟩ (by kernel_rfl) ?_
 refine AW.sa fokW [] ⟨[(2, .d (I h_.Mane))], [], 1, Fr.emp, [], 0⟩ (by kernel_rfl) ?_
 obtain rfl := Option.some.inj h
 exact AW.ret (hR_0 _ (retX (.cons (.tmp rfl) .nil) (.refl _) rfl (by kernel_rfl) (by kernel_rfl)))
def g135 (h_ : HairHorse) : Option Int := some h_.Tail
theorem k135 (h_ : HairHorse) (r : Int) (h : g135 h_ = some r) : SCall Tryd.prog Gs 135 [.agg [.d (I h_.Mane), .d (I h_.Tail), .d (I h_.Shade)]] [] 0 Fr.emp (.d (I r)) [] 0 Fr.emp := by
 unfold g135 at h
 refine SCall.mkK Tryd.func135 c135 rfl rfl (by kernel_rfl) (fun Q_0 hR_0 hN_0 => ?_)
 refine AW.sa fokW [] ⟨[(1, .ptr 0 0)], [(0, .var 124 [.d (I h_.Mane), .d (I h_.Tail), .d (I h_.Shade)])], 1, Fr.emp, [], 0⟩ (by kernel_rfl) ?_
 refine AW.sa fokW [] ⟨[(2, .d (I h_.Tail))], [], 1, Fr.emp, [], 0⟩ (by kernel_rfl) ?_
 obtain rfl := Option.some.inj h
 exact AW.ret (hR_0 _ (retX (.cons (.tmp rfl) .nil) (.refl _) rfl (by kernel_rfl) (by kernel_rfl)))
def g71_5 (b_B : HairBook) : Int → Int → (Nat → Int) → Option (Nat → Int) := fun v p out => (ixN 5 p).bind fun j => (ixN 2 (v.tmod 2)).bind fun j1 => match j1 with | 0 => (ixL b_B.Horses (wr (v.tdiv 2))).bind fun p1 => (g133 p1).bind fun r0_1 => (ixN 5 p).bind fun j2 => some (aset out j2 (wr ((out j) + r0_1))) | 1 => (ixL b_B.Horses (wr (v.tdiv 2))).bind fun p2 => (g135 p2).bind fun r0_2 => (ixN 5 p).bind fun j3 => some (aset out j3 (wr ((out j) + r0_2))) | _ => none
def g71 (b_B : HairBook) (mf : List (Hair_dye × Span)) (plan : (List Int)) : Option (Nat → Int) := (g105).bind fun r0 => (eachS (g71_5 b_B) plan 0 r0).bind fun out => some out
theorem k71 (b_B : HairBook) (mf : List (Hair_dye × Span)) (plan : (List Int)) (r : (Nat → Int)) (h : g71 b_B mf plan = some r) : SCall Tryd.prog Gs 71 [.agg (hbm b_B mf), .d (.sl 1 (List.map e3 plan))] [] 0 Fr.emp (.agg (c5 r)) [] 0 Fr.emp := by
 unfold g71 at h
 refine SCall.mkK Tryd.func71 c71 rfl rfl (by kernel_rfl) (fun Q_0 hR_0 hN_0 => ?_)
 refine AW.sa fokW [] ⟨[(1, .d (.sl 1 (List.map e3 plan))), (2, .ptr 0 0), (4, .ptr 1 0)], [(1, .var 92 [.d (I 0), .d (I 0), .d (I 0), .d (I 0), .d (I 0)]), (0, .var 78 (hbm b_B mf))], 2, Fr.emp, [], 0⟩ (by kernel_rfl) ?_
 refine AW.srwK (fun Q_1 hQ_1 => ?_)
 obtain ⟨r0, hx_2, h⟩ := bsome h
 refine RW.one fokW (r_call trivial rfl (k105 _ hx_2) rfl rfl (r_end ?_))
 refine RW.au fokW 2 [] ⟨[(1, .d (.sl 1 (List.map e3 plan))), (2, .ptr 0 0), (4, .ptr 1 0), (5, .ptr 2 0)], [(2, .var 92 (c5 r0)), (1, .var 92 [.d (I 0), .d (I 0), .d (I 0), .d (I 0), .d (I 0)]), (0, .var 78 (hbm b_B mf))], 3, Fr.emp, [], 0⟩ (by kernel_rfl) ?_
 refine RW.nil ?_
 refine hQ_1 _ ?_
 refine AW.seqK (fun K_3 hK_3 => ?_)
 refine AW.srwK (fun Q_4 hQ_4 => ?_)
 refine RW.au fokW 1 [] ⟨[(2, .ptr 0 0), (4, .ptr 1 0), (5, .ptr 2 0), (9, .d (.sl 1 (List.map e3 plan)))], [(2, .var 92 (c5 r0)), (1, .var 92 [.d (I 0), .d (I 0), .d (I 0), .d (I 0), .d (I 0)]), (0, .var 78 (hbm b_B mf))], 3, Fr.emp, [], 0⟩ (by kernel_rfl) ?_
 refine RW.one fokW (r_lenX trivial rfl lenm (r_end ?_))
 refine RW.au fokW 1 [] ⟨[(2, .ptr 0 0), (4, .ptr 1 0), (5, .ptr 2 0), (9, .d (.sl 1 (List.map e3 plan))), (10, .d (I (plan.length : Int))), (11, .d (I 0))], [(2, .var 92 (c5 r0)), (1, .var 92 [.d (I 0), .d (I 0), .d (I 0), .d (I 0), .d (I 0)]), (0, .var 78 (hbm b_B mf))], 3, Fr.emp, [], 0⟩ (by kernel_rfl) ?_
 refine RW.nil ?_
 refine hQ_4 _ ?_
 refine AW.block ?_
 refine AW.sln (t := 9) rfl (fun hN_5 => ?_)
 rw [List.length_map] at hN_5
 obtain ⟨out_5, hx_5, h⟩ := bsome h
 refine AW.evSK (fun (v : Int) (out : (Nat → Int)) => ⟨[(2, .ptr 0 0), (4, .ptr 1 0), (5, .ptr 2 0), (9, .d (.sl 1 (List.map e3 plan))), (10, .d (I (plan.length : Int))), (11, .d (I v))], [(2, .var 92 (c5 out)), (1, .var 92 [.d (I 0), .d (I 0), .d (I 0), .d (I 0), .d (I 0)]), (0, .var 78 (hbm b_B mf))], 3, Fr.emp, [], 0⟩) (g71_5 b_B) hx_5 (Can.kp (by kernel_rfl)) (fun v p out hi_5 hl_5 hp_5 c_5 h K_5 hK_5 => ?_) (fun v out hi_5 hl_5 hout => ?_)
 ·unfold g71_5 at h
  refine AW.sa fokW [] ⟨[(2, .ptr 0 0), (4, .ptr 1 0), (5, .ptr 2 0), (9, .d (.sl 1 (List.map e3 plan))), (10, .d (I (plan.length : Int))), (11, .d (I v)), (12, .d (.bool (decide (v < (plan.length : Int)))))], [(2, .var 92 (c5 out)), (1, .var 92 [.d (I 0), .d (I 0), .d (I 0), .d (I 0), .d (I 0)]), (0, .var 78 (hbm b_B mf))], 3, Fr.emp, [], 0⟩ (by kernel_rfl) ?_
  refine AW.seqK (fun K_6 hK_6 => ?_)
  refine AW.cond rfl (fun hb_7 => ?_) (fun hb_7 => False.elim (by have := of_decide_eq_false hb_7; omega))
  refine AW.skip ?_
  refine hK_6 _ ?_
  refine AW.seqK (fun K_8 hK_8 => ?_)
  refine AW.block ?_
  refine AW.srwK (fun Q_9 hQ_9 => ?_)
  refine RW.au fokW 1 [] ⟨[(2, .ptr 0 0), (4, .ptr 1 0), (5, .ptr 2 0), (9, .d (.sl 1 (List.map e3 plan))), (10, .d (I (plan.length : Int))), (11, .d (I v)), (13, .d (I v))], [(2, .var 92 (c5 out)), (1, .var 92 [.d (I 0), .d (I 0), .d (I 0), .d (I 0), .d (I 0)]), (0, .var 78 (hbm b_B mf))], 3, Fr.emp, [], 0⟩ (by kernel_rfl) ?_
  refine RW.one fokW (r_iaD trivial rfl rfl hi_5 (row := e3 p) (mapget hp_5) (r_end ?_))
  refine RW.au fokW 3 [] ⟨[(2, .ptr 0 0), (4, .ptr 1 0), (5, .ptr 2 0), (6, .d (I v)), (7, .d (I p)), (9, .d (.sl 1 (List.map e3 plan))), (10, .d (I (plan.length : Int))), (11, .d (I v))], [(2, .var 92 (c5 out)), (1, .var 92 [.d (I 0), .d (I 0), .d (I 0), .d (I 0), .d (I 0)]), (0, .var 78 (hbm b_B mf))], 3, Fr.emp, [], 0⟩ (by kernel_rfl) ?_
  refine RW.nil ?_
  refine hQ_9 _ ?_
  refine AW.drw fokW ?_
  refine RunC.auX 1 ⟨[(2, .ptr 0 0), (4, .ptr 1 0), (5, .ptr 2 0), (6, .d (I v)), (9, .d (.sl 1 (List.map e3 plan))), (10, .d (I (plan.length : Int))), (11, .d (I v)), (16, .d (I p))], [(2, .var 92 (c5 out)), (1, .var 92 [.d (I 0), .d (I 0), .d (I 0), .d (I 0), .d (I 0)]), (0, .var 78 (hbm b_B mf))], 3, Fr.emp, [], 0⟩ (by kernel_rfl) ?_
  obtain ⟨j, hv_11, h⟩ := bsome h
  refine r_iaV trivial rfl rfl rfl (ixN_ok hv_11).1 (ixN_ok hv_11).2.1 ?_
  refine r_loadV trivial rfl rfl (u := .d (I (out j))) (agt (f := fun k => .d (I (out k))) hv_11) ?_
  refine RunC.auX 2 ⟨[(2, .ptr 0 0), (4, .ptr 1 0), (5, .ptr 2 0), (6, .d (I v)), (9, .d (.sl 1 (List.map e3 plan))), (10, .d (I (plan.length : Int))), (11, .d (I v)), (16, .d (I p)), (18, .d (I (out j))), (20, .d (I (v.tmod 2)))], [(2, .var 92 (c5 out)), (1, .var 92 [.d (I 0), .d (I 0), .d (I 0), .d (I 0), .d (I 0)]), (0, .var 78 (hbm b_B mf))], 3, Fr.emp, [], 0⟩ (by kernel_rfl) ?_
  obtain ⟨j1, hv_12, h⟩ := bsome h
  rcases j1 with _ | _ | j1
  ·refine r_iaF trivial rfl rfl (ixN_ok hv_12).1 (ixN_ok hv_12).2.1 ?_
   refine r_loadF trivial rfl (u := .fn 133) (by rw [(ixN_ok hv_12).2.2]; rfl) ?_
   refine RunC.auX 5 ⟨[(2, .ptr 0 0), (4, .ptr 1 0), (5, .ptr 2 0), (9, .d (.sl 1 (List.map e3 plan))), (10, .d (I (plan.length : Int))), (11, .d (I v)), (16, .d (I p)), (18, .d (I (out j))), (22, .d (.fn 133)), (25, .d (.sl 3 (List.map e69 b_B.Horses))), (27, .d (I (wr (v.tdiv 2))))], [(2, .var 92 (c5 out)), (1, .var 92 [.d (I 0), .d (I 0), .d (I 0), .d (I 0), .d (I 0)]), (0, .var 78 (hbm b_B mf))], 3, Fr.emp, [], 0⟩ (by kernel_rfl) ?_
   obtain ⟨p1, hv_13, h⟩ := bsome h
   refine r_iaD trivial rfl rfl (ixL_ok hv_13).1 (row := e69 p1) (mapget (ixL_ok hv_13).2) ?_
   refine RunC.auX 1 ⟨[(2, .ptr 0 0), (4, .ptr 1 0), (5, .ptr 2 0), (9, .d (.sl 1 (List.map e3 plan))), (10, .d (I (plan.length : Int))), (11, .d (I v)), (16, .d (I p)), (18, .d (I (out j))), (22, .d (.fn 133)), (29, .agg [.d (I p1.Mane), .d (I p1.Tail), .d (I p1.Shade)])], [(2, .var 92 (c5 out)), (1, .var 92 [.d (I 0), .d (I 0), .d (I 0), .d (I 0), .d (I 0)]), (0, .var 78 (hbm b_B mf))], 3, Fr.emp, [], 0⟩ (by kernel_rfl) ?_
   obtain ⟨r0_1, hx_14, h⟩ := bsome h
   refine r_callvZ (zr := []) trivial rfl (.fn _) (by kernel_rfl) rfl (k133 p1 _ hx_14) trivial ⟨.refl _, trivial⟩ rfl rfl rfl rfl ?_
   refine RunC.auX 1 ⟨[(2, .ptr 0 0), (4, .ptr 1 0), (5, .ptr 2 0), (9, .d (.sl 1 (List.map e3 plan))), (10, .d (I (plan.length : Int))), (11, .d (I v)), (16, .d (I p)), (31, .d (I (wr ((out j) + r0_1))))], [(2, .var 92 (c5 out)), (1, .var 92 [.d (I 0), .d (I 0), .d (I 0), .d (I 0), .d (I 0)]), (0, .var 78 (hbm b_B mf))], 3, Fr.emp, [], 0⟩ (by kernel_rfl) ?_
   obtain ⟨j2, hv_15, h⟩ := bsome h
   refine r_iaV trivial rfl rfl rfl (ixN_ok hv_15).1 (ixN_ok hv_15).2.1 ?_
   refine r_stX trivial rfl rfl rfl rfl rfl (aslot hv_15 rfl) (cs' := [.d (I ((aset out j2 (wr ((out j) + r0_1))) 0)), .d (I ((aset out j2 (wr ((out j) + r0_1))) 1)), .d (I ((aset out j2 (wr ((out j) + r0_1))) 2)), .d (I ((aset out j2 (wr ((out j) + r0_1))) 3)), .d (I ((aset out j2 (wr ((out j) + r0_1))) 4))]) (ast (w := out) (c := fun z => .d (I z)) hv_15) ?_
   refine RunC.fin ⟨[(2, .ptr 0 0), (4, .ptr 1 0), (5, .ptr 2 0), (9, .d (.sl 1 (List.map e3 plan))), (10, .d (I (plan.length : Int))), (11, .d (I v))], [(2, .var 92 [.d (I ((aset out j2 (wr ((out j) + r0_1))) 0)), .d (I ((aset out j2 (wr ((out j) + r0_1))) 1)), .d (I ((aset out j2 (wr ((out j) + r0_1))) 2)), .d (I ((aset out j2 (wr ((out j) + r0_1))) 3)), .d (I ((aset out j2 (wr ((out j) + r0_1))) 4))]), (1, .var 92 [.d (I 0), .d (I 0), .d (I 0), .d (I 0), .d (I 0)]), (0, .var 78 (hbm b_B mf))], 3, Fr.emp, [], 0⟩ (by kernel_rfl) (by kernel_rfl) ?_
   refine hK_8 _ ?_
   refine AW.ra fokW [] ⟨[(2, .ptr 0 0), (4, .ptr 1 0), (5, .ptr 2 0), (9, .d (.sl 1 (List.map e3 plan))), (10, .d (I (plan.length : Int))), (11, .d (I (wr (v + 1))))], [(2, .var 92 [.d (I ((aset out j2 (wr ((out j) + r0_1))) 0)), .d (I ((aset out j2 (wr ((out j) + r0_1))) 1)), .d (I ((aset out j2 (wr ((out j) + r0_1))) 2)), .d (I ((aset out j2 (wr ((out j) + r0_1))) 3)), .d (I ((aset out j2 (wr ((out j) + r0_1))) 4))]), (1, .var 92 [.d (I 0), .d (I 0), .d (I 0), .d (I 0), .d (I 0)]), (0, .var 78 (hbm b_B mf))], 3, Fr.emp, [], 0⟩ (by kernel_rfl) ?_
   obtain rfl := Option.some.inj h
   have ew : wr (v + 1) = v + 1 := inext (N := (plan.length : Int)) (by omega) (by omega) (by omega)
   rw [ew]
   exact hK_5 _ (Can.kp (by kernel_rfl))
  ·refine r_iaF trivial rfl rfl (ixN_ok hv_12).1 (ixN_ok hv_12).2.1 ?_
   refine r_loadF trivial rfl (u := .fn 135) (by rw [(ixN_ok hv_12).2.2]; rfl) ?_
   refine RunC.auX 5 ⟨[(2, .ptr 0 0), (4, .ptr 1 0), (5, .ptr 2 0), (9, .d (.sl 1 (List.map e3 plan))), (10, .d (I (plan.length : Int))), (11, .d (I v)), (16, .d (I p)), (18, .d (I (out j))), (22, .d (.fn 135)), (25, .d (.sl 3 (List.map e69 b_B.Horses))), (27, .d (I (wr (v.tdiv 2))))], [(2, .var 92 (c5 out)), (1, .var 92 [.d (I 0), .d (I 0), .d (I 0), .d (I 0), .d (I 0)]), (0, .var 78 (hbm b_B mf))], 3, Fr.emp, [], 0⟩ (by kernel_rfl) ?_
   obtain ⟨p2, hv_16, h⟩ := bsome h
   refine r_iaD trivial rfl rfl (ixL_ok hv_16).1 (row := e69 p2) (mapget (ixL_ok hv_16).2) ?_
   refine RunC.auX 1 ⟨[(2, .ptr 0 0), (4, .ptr 1 0), (5, .ptr 2 0), (9, .d (.sl 1 (List.map e3 plan))), (10, .d (I (plan.length : Int))), (11, .d (I v)), (16, .d (I p)), (18, .d (I (out j))), (22, .d (.fn 135)), (29, .agg [.d (I p2.Mane), .d (I p2.Tail), .d (I p2.Shade)])], [(2, .var 92 (c5 out)), (1, .var 92 [.d (I 0), .d (I 0), .d (I 0), .d (I 0), .d (I 0)]), (0, .var 78 (hbm b_B mf))], 3, Fr.emp, [], 0⟩ (by kernel_rfl) ?_
   obtain ⟨r0_2, hx_17, h⟩ := bsome h
   refine r_callvZ (zr := []) trivial rfl (.fn _) (by kernel_rfl) rfl (k135 p2 _ hx_17) trivial ⟨.refl _, trivial⟩ rfl rfl rfl rfl ?_
   refine RunC.auX 1 ⟨[(2, .ptr 0 0), (4, .ptr 1 0), (5, .ptr 2 0), (9, .d (.sl 1 (List.map e3 plan))), (10, .d (I (plan.length : Int))), (11, .d (I v)), (16, .d (I p)), (31, .d (I (wr ((out j) + r0_2))))], [(2, .var 92 (c5 out)), (1, .var 92 [.d (I 0), .d (I 0), .d (I 0), .d (I 0), .d (I 0)]), (0, .var 78 (hbm b_B mf))], 3, Fr.emp, [], 0⟩ (by kernel_rfl) ?_
   obtain ⟨j3, hv_18, h⟩ := bsome h
   refine r_iaV trivial rfl rfl rfl (ixN_ok hv_18).1 (ixN_ok hv_18).2.1 ?_
   refine r_stX trivial rfl rfl rfl rfl rfl (aslot hv_18 rfl) (cs' := [.d (I ((aset out j3 (wr ((out j) + r0_2))) 0)), .d (I ((aset out j3 (wr ((out j) + r0_2))) 1)), .d (I ((aset out j3 (wr ((out j) + r0_2))) 2)), .d (I ((aset out j3 (wr ((out j) + r0_2))) 3)), .d (I ((aset out j3 (wr ((out j) + r0_2))) 4))]) (ast (w := out) (c := fun z => .d (I z)) hv_18) ?_
   refine RunC.fin ⟨[(2, .ptr 0 0), (4, .ptr 1 0), (5, .ptr 2 0), (9, .d (.sl 1 (List.map e3 plan))), (10, .d (I (plan.length : Int))), (11, .d (I v))], [(2, .var 92 [.d (I ((aset out j3 (wr ((out j) + r0_2))) 0)), .d (I ((aset out j3 (wr ((out j) + r0_2))) 1)), .d (I ((aset out j3 (wr ((out j) + r0_2))) 2)), .d (I ((aset out j3 (wr ((out j) + r0_2))) 3)), .d (I ((aset out j3 (wr ((out j) + r0_2))) 4))]), (1, .var 92 [.d (I 0), .d (I 0), .d (I 0), .d (I 0), .d (I 0)]), (0, .var 78 (hbm b_B mf))], 3, Fr.emp, [], 0⟩ (by kernel_rfl) (by kernel_rfl) ?_
   refine hK_8 _ ?_
   refine AW.ra fokW [] ⟨[(2, .ptr 0 0), (4, .ptr 1 0), (5, .ptr 2 0), (9, .d (.sl 1 (List.map e3 plan))), (10, .d (I (plan.length : Int))), (11, .d (I (wr (v + 1))))], [(2, .var 92 [.d (I ((aset out j3 (wr ((out j) + r0_2))) 0)), .d (I ((aset out j3 (wr ((out j) + r0_2))) 1)), .d (I ((aset out j3 (wr ((out j) + r0_2))) 2)), .d (I ((aset out j3 (wr ((out j) + r0_2))) 3)), .d (I ((aset out j3 (wr ((out j) + r0_2))) 4))]), (1, .var 92 [.d (I 0), .d (I 0), .d (I 0), .d (I 0), .d (I 0)]), (0, .var 78 (hbm b_B mf))], 3, Fr.emp, [], 0⟩ (by kernel_rfl) ?_
   obtain rfl := Option.some.inj h
   have ew : wr (v + 1) = v + 1 := inext (N := (plan.length : Int)) (by omega) (by omega) (by omega)
   rw [ew]
   exact hK_5 _ (Can.kp (by kernel_rfl))
  ·cases h
 ·subst hout
  refine AW.sa fokW [] ⟨[(2, .ptr 0 0), (4, .ptr 1 0), (5, .ptr 2 0), (9, .d (.sl 1 (List.map e3 plan))), (10, .d (I (plan.length : Int))), (11, .d (I v)), (12, .d (.bool (decide (v < (plan.length : Int)))))], [(2, .var 92 (c5 out)), (1, .var 92 [.d (I 0), .d (I 0), .d (I 0), .d (I 0), .d (I 0)]), (0, .var 78 (hbm b_B mf))], 3, Fr.emp, [], 0⟩ (by kernel_rfl) ?_
  refine AW.seqK (fun K_19 hK_19 => ?_)
  refine AW.cond rfl (fun hb_20 => False.elim (by have := of_decide_eq_true hb_20; omega)) (fun hb_20 => ?_)
  refine AW.exit ?_
  refine hK_3 _ ?_
  refine AW.sa fokW [] ⟨[(4, .ptr 1 0)], [(1, .var 92 (c5 out))], 3, Fr.emp, [], 0⟩ (by kernel_rfl) ?_
  obtain rfl := Option.some.inj h
  exact AW.ret (hR_0 _ (retX (.cons (.agg rfl rfl (Nat.le_of_ble_eq_true rfl)) .nil) (.refl _) rfl (by kernel_rfl) (by kernel_rfl)))
def g89 (b_B : HairBook) (mf : List (Hair_dye × Span)) (horse : Int) (mane : Int) (tail : Int) : Option Bool := (g59 b_B mf horse mane tail).bind fun (r0_1, r1_1, r2_1) => some r2_1
theorem k89 (b_B : HairBook) (mf : List (Hair_dye × Span)) (horse : Int) (mane : Int) (tail : Int) (r : Bool) (h : g89 b_B mf horse mane tail = some r) : SCall Tryd.prog Gs 89 [.agg (hbm b_B mf), .d (I horse), .d (I mane), .d (I tail)] [] 0 Fr.emp (.d (.bool r)) [] 0 Fr.emp := by
 unfold g89 at h
 refine SCall.mkK Tryd.func89 c89 rfl rfl (by kernel_rfl) (fun Q_0 hR_0 hN_0 => ?_)
 refine AW.sa fokW [] ⟨[(1, .d (I horse)), (2, .d (I mane)), (3, .d (I tail)), (4, .ptr 0 0)], [(0, .var 78 (hbm b_B mf))], 1, Fr.emp, [], 0⟩ (by kernel_rfl) ?_
 refine AW.srwK (fun Q_1 hQ_1 => ?_)
 refine RW.au fokW 4 [] ⟨[(13, .agg (hbm b_B mf)), (14, .d (I horse)), (15, .d (I mane)), (16, .d (I tail))], [], 1, Fr.emp, [], 0⟩ (by kernel_rfl) ?_
 obtain ⟨⟨r0_1, r1_1, r2_1⟩, hx_2, h⟩ := bsome h
 refine RW.one fokW (r_call trivial rfl (k59 b_B mf horse mane tail _ hx_2) rfl rfl (r_end ?_))
 refine RW.au fokW 9 [] ⟨[(11, .d (.bool r2_1))], [], 3, Fr.emp, [], 0⟩ (by kernel_rfl) ?_
 refine RW.nil ?_
 refine hQ_1 _ ?_
 refine AW.sa fokW [] ⟨[(8, .d (.bool r2_1))], [], 3, Fr.emp, [], 0⟩ (by kernel_rfl) ?_
 obtain rfl := Option.some.inj h
 exact AW.ret (hR_0 _ (retX (.cons (.tmp rfl) .nil) (.refl _) rfl (by kernel_rfl) (by kernel_rfl)))
def g67_17 (b_B : HairBook) (mf : List (Hair_dye × Span)) (plan : (List Int)) : Int → HairHorse → Unit → Option (Ctl (Unit) (Bool)) := fun v1 p1 _ => (ixL plan (wr (2 * v1))).bind fun p2 => (ixL plan (wr ((wr (2 * v1)) + 1))).bind fun p3 => (g89 b_B mf v1 p2 p3).bind fun r0 => bif (!r0) then (some (.brk false)) else (some (.next ()))
def g67_5 (r0_3 : (Nat → Int)) : Int → HairHank → Unit → Option (Ctl (Unit) (Bool)) := fun v p _ => (ixN 5 v).bind fun j => bif (decide (p.Weight.Low < (r0_3 j))) then (some (.brk false)) else (some (.next ()))
def g67 (b_B : HairBook) (mf : List (Hair_dye × Span)) (plan : (List Int)) : Option Bool := (g71 b_B mf plan).bind fun r0_3 => bindC (eachC (g67_5 r0_3) b_B.Hanks 0 ()) fun _ => bindC (eachC (g67_17 b_B mf plan) b_B.Horses 0 ()) fun _ => some true
theorem k67 (b_B : HairBook) (mf : List (Hair_dye × Span)) (plan : (List Int)) (r : Bool) (h : g67 b_B mf plan = some r) : SCall Tryd.prog Gs 67 [.agg (hbm b_B mf), .d (.sl 1 (List.map e3 plan))] [] 0 Fr.emp (.d (.bool r)) [] 0 Fr.emp := by
 unfold g67 at h
 refine SCall.mkK Tryd.func67 c67 rfl rfl (by kernel_rfl) (fun Q_0 hR_0 hN_0 => ?_)
 refine AW.sa fokW [] ⟨[(1, .d (.sl 1 (List.map e3 plan))), (2, .ptr 0 0)], [(0, .var 78 (hbm b_B mf))], 1, Fr.emp, [], 0⟩ (by kernel_rfl) ?_
 refine AW.srwK (fun Q_1 hQ_1 => ?_)
 refine RW.au fokW 2 [] ⟨[(1, .d (.sl 1 (List.map e3 plan))), (2, .ptr 0 0), (9, .agg (hbm b_B mf)), (10, .d (.sl 1 (List.map e3 plan)))], [(0, .var 78 (hbm b_B mf))], 1, Fr.emp, [], 0⟩ (by kernel_rfl) ?_
 obtain ⟨r0_3, hx_2, h⟩ := bsome h
 refine RW.one fokW (r_call trivial rfl (k71 b_B mf plan _ hx_2) rfl rfl (r_end ?_))
 refine RW.au fokW 2 [] ⟨[(1, .d (.sl 1 (List.map e3 plan))), (2, .ptr 0 0), (5, .ptr 1 0)], [(1, .var 92 (c5 r0_3)), (0, .var 78 (hbm b_B mf))], 2, Fr.emp, [], 0⟩ (by kernel_rfl) ?_
 refine RW.nil ?_
 refine hQ_1 _ ?_
 refine AW.seqK (fun K_3 hK_3 => ?_)
 refine AW.srwK (fun Q_4 hQ_4 => ?_)
 refine RW.au fokW 3 [] ⟨[(1, .d (.sl 1 (List.map e3 plan))), (2, .ptr 0 0), (5, .ptr 1 0), (14, .d (.sl 4 (List.map e58 b_B.Hanks)))], [(1, .var 92 (c5 r0_3)), (0, .var 78 (hbm b_B mf))], 2, Fr.emp, [], 0⟩ (by kernel_rfl) ?_
 refine RW.one fokW (r_lenX trivial rfl lenm (r_end ?_))
 refine RW.au fokW 1 [] ⟨[(1, .d (.sl 1 (List.map e3 plan))), (2, .ptr 0 0), (5, .ptr 1 0), (14, .d (.sl 4 (List.map e58 b_B.Hanks))), (15, .d (I (b_B.Hanks.length : Int))), (16, .d (I 0))], [(1, .var 92 (c5 r0_3)), (0, .var 78 (hbm b_B mf))], 2, Fr.emp, [], 0⟩ (by kernel_rfl) ?_
 refine RW.nil ?_
 refine hQ_4 _ ?_
 refine AW.block ?_
 refine AW.sln (t := 14) rfl (fun hN_5 => ?_)
 rw [List.length_map] at hN_5
 obtain ⟨out_5, hx_5, hk_5⟩ := bsomeC h
 refine AW.evCK (fun (v : Int) (_ : Unit) => ⟨[(1, .d (.sl 1 (List.map e3 plan))), (2, .ptr 0 0), (5, .ptr 1 0), (14, .d (.sl 4 (List.map e58 b_B.Hanks))), (15, .d (I (b_B.Hanks.length : Int))), (16, .d (I v))], [(1, .var 92 (c5 r0_3)), (0, .var 78 (hbm b_B mf))], 2, Fr.emp, [], 0⟩) (g67_5 r0_3) hx_5 (Can.kp (by kernel_rfl)) (fun v p s_5 hi_5 hl_5 hp_5 c_5 h hb_5 K_5 hK_5 => ?_) (fun v s_5 hi_5 hl_5 hout => ?_)
 ·unfold g67_5 at h
  refine AW.sa fokW [] ⟨[(1, .d (.sl 1 (List.map e3 plan))), (2, .ptr 0 0), (5, .ptr 1 0), (14, .d (.sl 4 (List.map e58 b_B.Hanks))), (15, .d (I (b_B.Hanks.length : Int))), (16, .d (I v)), (17, .d (.bool (decide (v < (b_B.Hanks.length : Int)))))], [(1, .var 92 (c5 r0_3)), (0, .var 78 (hbm b_B mf))], 2, Fr.emp, [], 0⟩ (by kernel_rfl) ?_
  refine AW.seqK (fun K_6 hK_6 => ?_)
  refine AW.cond rfl (fun hb_7 => ?_) (fun hb_7 => False.elim (by have := of_decide_eq_false hb_7; omega))
  refine AW.skip ?_
  refine hK_6 _ ?_
  refine AW.seqK (fun K_8 hK_8 => ?_)
  refine AW.block ?_
  refine AW.srwK (fun Q_9 hQ_9 => ?_)
  refine RW.au fokW 1 [] ⟨[(1, .d (.sl 1 (List.map e3 plan))), (2, .ptr 0 0), (5, .ptr 1 0), (14, .d (.sl 4 (List.map e58 b_B.Hanks))), (15, .d (I (b_B.Hanks.length : Int))), (16, .d (I v)), (18, .d (I v))], [(1, .var 92 (c5 r0_3)), (0, .var 78 (hbm b_B mf))], 2, Fr.emp, [], 0⟩ (by kernel_rfl) ?_
  refine RW.one fokW (r_iaD trivial rfl rfl hi_5 (row := e58 p) (mapget hp_5) (r_end ?_))
  refine RW.au fokW 4 [] ⟨[(1, .d (.sl 1 (List.map e3 plan))), (2, .ptr 0 0), (5, .ptr 1 0), (6, .d (I v)), (7, .ptr 2 0), (14, .d (.sl 4 (List.map e58 b_B.Hanks))), (15, .d (I (b_B.Hanks.length : Int))), (16, .d (I v))], [(2, .var 58 (cv58 p)), (1, .var 92 (c5 r0_3)), (0, .var 78 (hbm b_B mf))], 3, Fr.emp, [], 0⟩ (by kernel_rfl) ?_
  refine RW.nil ?_
  refine hQ_9 _ ?_
  refine AW.sdrwK fokW (fun Q_10 hQ_10 => ?_)
  refine RunC.auX 1 ⟨[(1, .d (.sl 1 (List.map e3 plan))), (2, .ptr 0 0), (5, .ptr 1 0), (7, .ptr 2 0), (14, .d (.sl 4 (List.map e58 b_B.Hanks))), (15, .d (I (b_B.Hanks.length : Int))), (16, .d (I v)), (21, .d (I v))], [(2, .var 58 (cv58 p)), (1, .var 92 (c5 r0_3)), (0, .var 78 (hbm b_B mf))], 3, Fr.emp, [], 0⟩ (by kernel_rfl) ?_
  obtain ⟨j, hv_11, h⟩ := bsome h
  refine r_iaV trivial rfl rfl rfl (ixN_ok hv_11).1 (ixN_ok hv_11).2.1 ?_
  refine r_loadV trivial rfl rfl (u := .d (I (r0_3 j))) (agt (f := fun k => .d (I (r0_3 k))) hv_11) ?_
  refine RunC.auX 4 ⟨[(1, .d (.sl 1 (List.map e3 plan))), (2, .ptr 0 0), (5, .ptr 1 0), (14, .d (.sl 4 (List.map e58 b_B.Hanks))), (15, .d (I (b_B.Hanks.length : Int))), (16, .d (I v)), (27, .d (.bool (decide (p.Weight.Low < (r0_3 j)))))], [(2, .var 58 (cv58 p)), (1, .var 92 (c5 r0_3)), (0, .var 78 (hbm b_B mf))], 3, Fr.emp, [], 0⟩ (by kernel_rfl) ?_
  refine RunC.fin ⟨[(1, .d (.sl 1 (List.map e3 plan))), (2, .ptr 0 0), (5, .ptr 1 0), (14, .d (.sl 4 (List.map e58 b_B.Hanks))), (15, .d (I (b_B.Hanks.length : Int))), (16, .d (I v)), (27, .d (.bool (decide (p.Weight.Low < (r0_3 j)))))], [(1, .var 92 (c5 r0_3)), (0, .var 78 (hbm b_B mf))], 3, Fr.emp, [], 0⟩ (by kernel_rfl) (by kernel_rfl) ?_
  refine hQ_10 _ ?_
  refine AW.cond rfl (fun hb_12 => ?_) (fun hb_12 => ?_)
  ·have h := ifT hb_12 h
   refine AW.sa fokW [] ⟨[(4, .d (.bool false))], [], 3, Fr.emp, [], 0⟩ (by kernel_rfl) ?_
   obtain rfl := Option.some.inj h
   have e_1 := hb_5 _ rfl
   subst e_1
   obtain rfl := Aft.bk hk_5
   exact AW.ret (hR_0 _ (retX (.cons (.tmp rfl) .nil) (.refl _) rfl (by kernel_rfl) (by kernel_rfl)))
  ·have h := ifF hb_12 h
   refine AW.skip ?_
   refine hK_8 _ ?_
   refine AW.ra fokW [] ⟨[(1, .d (.sl 1 (List.map e3 plan))), (2, .ptr 0 0), (5, .ptr 1 0), (14, .d (.sl 4 (List.map e58 b_B.Hanks))), (15, .d (I (b_B.Hanks.length : Int))), (16, .d (I (wr (v + 1))))], [(1, .var 92 (c5 r0_3)), (0, .var 78 (hbm b_B mf))], 3, Fr.emp, [], 0⟩ (by kernel_rfl) ?_
   obtain rfl := Option.some.inj h
   have ew : wr (v + 1) = v + 1 := inext (N := (b_B.Hanks.length : Int)) (by omega) (by omega) (by omega)
   rw [ew]
   exact hK_5 _ _ rfl (Can.kp (by kernel_rfl))
 ·subst hout
  have h := Aft.nx hk_5
  refine AW.sa fokW [] ⟨[(1, .d (.sl 1 (List.map e3 plan))), (2, .ptr 0 0), (5, .ptr 1 0), (14, .d (.sl 4 (List.map e58 b_B.Hanks))), (15, .d (I (b_B.Hanks.length : Int))), (16, .d (I v)), (17, .d (.bool (decide (v < (b_B.Hanks.length : Int)))))], [(1, .var 92 (c5 r0_3)), (0, .var 78 (hbm b_B mf))], 2, Fr.emp, [], 0⟩ (by kernel_rfl) ?_
  refine AW.seqK (fun K_13 hK_13 => ?_)
  refine AW.cond rfl (fun hb_14 => False.elim (by have := of_decide_eq_true hb_14; omega)) (fun hb_14 => ?_)
  refine AW.exit ?_
  refine hK_3 _ ?_
  refine AW.seqK (fun K_15 hK_15 => ?_)
  refine AW.srwK (fun Q_16 hQ_16 => ?_)
  refine RW.au fokW 3 [] ⟨[(1, .d (.sl 1 (List.map e3 plan))), (2, .ptr 0 0), (31, .d (.sl 3 (List.map e69 b_B.Horses)))], [(0, .var 78 (hbm b_B mf))], 2, Fr.emp, [], 0⟩ (by kernel_rfl) ?_
  refine RW.one fokW (r_lenX trivial rfl lenm (r_end ?_))
  refine RW.au fokW 1 [] ⟨[(1, .d (.sl 1 (List.map e3 plan))), (2, .ptr 0 0), (32, .d (I (b_B.Horses.length : Int))), (33, .d (I 0))], [(0, .var 78 (hbm b_B mf))], 2, Fr.emp, [], 0⟩ (by kernel_rfl) ?_
  refine RW.nil ?_
  refine hQ_16 _ ?_
  refine AW.block ?_
  refine AW.slh (r := 0) (off := 1) rfl rfl (fun hN_17 => ?_)
  rw [List.length_map] at hN_17
  obtain ⟨out_17, hx_17, hk_17⟩ := bsomeC h
  refine AW.evCK (fun (v1 : Int) (_ : Unit) => ⟨[(1, .d (.sl 1 (List.map e3 plan))), (2, .ptr 0 0), (32, .d (I (b_B.Horses.length : Int))), (33, .d (I v1))], [(0, .var 78 (hbm b_B mf))], 2, Fr.emp, [], 0⟩) (g67_17 b_B mf plan) hx_17 (Can.kp (by kernel_rfl)) (fun v1 p1 s_17 hi_17 hl_17 hp_17 c_17 h hb_17 K_17 hK_17 => ?_) (fun v1 s_17 hi_17 hl_17 hout => ?_)
  ·unfold g67_17 at h
   refine AW.sa fokW [] ⟨[(1, .d (.sl 1 (List.map e3 plan))), (2, .ptr 0 0), (32, .d (I (b_B.Horses.length : Int))), (33, .d (I v1)), (34, .d (.bool (decide (v1 < (b_B.Horses.length : Int)))))], [(0, .var 78 (hbm b_B mf))], 2, Fr.emp, [], 0⟩ (by kernel_rfl) ?_
   refine AW.seqK (fun K_18 hK_18 => ?_)
   refine AW.cond rfl (fun hb_19 => ?_) (fun hb_19 => False.elim (by have := of_decide_eq_false hb_19; omega))
   refine AW.skip ?_
   refine hK_18 _ ?_
   refine AW.seqK (fun K_20 hK_20 => ?_)
   refine AW.block ?_
   refine AW.sa fokW [] ⟨[(1, .d (.sl 1 (List.map e3 plan))), (2, .ptr 0 0), (8, .d (I v1)), (32, .d (I (b_B.Horses.length : Int))), (33, .d (I v1))], [(0, .var 78 (hbm b_B mf))], 2, Fr.emp, [], 0⟩ (by kernel_rfl) ?_
   refine AW.sdrwK fokW (fun Q_21 hQ_21 => ?_)
   refine RunC.auX 5 ⟨[(1, .d (.sl 1 (List.map e3 plan))), (2, .ptr 0 0), (8, .d (I v1)), (32, .d (I (b_B.Horses.length : Int))), (33, .d (I v1)), (36, .agg (hbm b_B mf)), (37, .d (I v1)), (38, .d (.sl 1 (List.map e3 plan))), (40, .d (I (wr (2 * v1))))], [(0, .var 78 (hbm b_B mf))], 2, Fr.emp, [], 0⟩ (by kernel_rfl) ?_
   obtain ⟨p2, hv_22, h⟩ := bsome h
   refine r_iaD trivial rfl rfl (ixL_ok hv_22).1 (row := e3 p2) (mapget (ixL_ok hv_22).2) ?_
   refine RunC.auX 5 ⟨[(1, .d (.sl 1 (List.map e3 plan))), (2, .ptr 0 0), (32, .d (I (b_B.Horses.length : Int))), (33, .d (I v1)), (36, .agg (hbm b_B mf)), (37, .d (I v1)), (42, .d (I p2)), (43, .d (.sl 1 (List.map e3 plan))), (46, .d (I (wr ((wr (2 * v1)) + 1))))], [(0, .var 78 (hbm b_B mf))], 2, Fr.emp, [], 0⟩ (by kernel_rfl) ?_
   obtain ⟨p3, hv_23, h⟩ := bsome h
   refine r_iaD trivial rfl rfl (ixL_ok hv_23).1 (row := e3 p3) (mapget (ixL_ok hv_23).2) ?_
   refine RunC.auX 1 ⟨[(1, .d (.sl 1 (List.map e3 plan))), (2, .ptr 0 0), (32, .d (I (b_B.Horses.length : Int))), (33, .d (I v1)), (36, .agg (hbm b_B mf)), (37, .d (I v1)), (42, .d (I p2)), (48, .d (I p3))], [(0, .var 78 (hbm b_B mf))], 2, Fr.emp, [], 0⟩ (by kernel_rfl) ?_
   obtain ⟨r0, hx_24, h⟩ := bsome h
   refine r_call trivial rfl (k89 b_B mf v1 p2 p3 _ hx_24) rfl rfl ?_
   refine RunC.auX 1 ⟨[(1, .d (.sl 1 (List.map e3 plan))), (2, .ptr 0 0), (32, .d (I (b_B.Horses.length : Int))), (33, .d (I v1)), (50, .d (.bool (!r0)))], [(0, .var 78 (hbm b_B mf))], 2, Fr.emp, [], 0⟩ (by kernel_rfl) ?_
   refine RunC.fin ⟨[(1, .d (.sl 1 (List.map e3 plan))), (2, .ptr 0 0), (32, .d (I (b_B.Horses.length : Int))), (33, .d (I v1)), (50, .d (.bool (!r0)))], [(0, .var 78 (hbm b_B mf))], 2, Fr.emp, [], 0⟩ (by kernel_rfl) (by kernel_rfl) ?_
   refine hQ_21 _ ?_
   refine AW.cond rfl (fun hb_25 => ?_) (fun hb_25 => ?_)
   ·have h := ifT hb_25 h
    refine AW.sa fokW [] ⟨[(4, .d (.bool false))], [], 2, Fr.emp, [], 0⟩ (by kernel_rfl) ?_
    obtain rfl := Option.some.inj h
    have e_1 := hb_17 _ rfl
    subst e_1
    obtain rfl := Aft.bk hk_17
    exact AW.ret (hR_0 _ (retX (.cons (.tmp rfl) .nil) (.refl _) rfl (by kernel_rfl) (by kernel_rfl)))
   ·have h := ifF hb_25 h
    refine AW.skip ?_
    refine hK_20 _ ?_
    refine AW.ra fokW [] ⟨[(1, .d (.sl 1 (List.map e3 plan))), (2, .ptr 0 0), (32, .d (I (b_B.Horses.length : Int))), (33, .d (I (wr (v1 + 1))))], [(0, .var 78 (hbm b_B mf))], 2, Fr.emp, [], 0⟩ (by kernel_rfl) ?_
    obtain rfl := Option.some.inj h
    have ew : wr (v1 + 1) = v1 + 1 := inext (N := (b_B.Horses.length : Int)) (by omega) (by omega) (by omega)
    rw [ew]
    exact hK_17 _ _ rfl (Can.kp (by kernel_rfl))
  ·subst hout
   have h := Aft.nx hk_17
   refine AW.sa fokW [] ⟨[(1, .d (.sl 1 (List.map e3 plan))), (2, .ptr 0 0), (32, .d (I (b_B.Horses.length : Int))), (33, .d (I v1)), (34, .d (.bool (decide (v1 < (b_B.Horses.length : Int)))))], [(0, .var 78 (hbm b_B mf))], 2, Fr.emp, [], 0⟩ (by kernel_rfl) ?_
   refine AW.seqK (fun K_26 hK_26 => ?_)
   refine AW.cond rfl (fun hb_27 => False.elim (by have := of_decide_eq_true hb_27; omega)) (fun hb_27 => ?_)
   refine AW.exit ?_
   refine hK_15 _ ?_
   refine AW.sa fokW [] ⟨[(4, .d (.bool true))], [], 2, Fr.emp, [], 0⟩ (by kernel_rfl) ?_
   obtain rfl := Option.some.inj h
   exact AW.ret (hR_0 _ (retX (.cons (.tmp rfl) .nil) (.refl _) rfl (by kernel_rfl) (by kernel_rfl)))
def g19 (x : HairBook) (plan : (List Int)) : Option (Bool × Int) := (g55a x plan).bind fun r_10 => match r_10 with | .next (r0_B4, r1_1) => (must (decide (r1_1 ≠ 0))).bind fun _ => some (false, r1_1) | .brk (r0_B5, mf2, r1_2) => bif (decide (r1_2 ≠ 0)) then (some (false, r1_2)) else ((g67 r0_B5 mf2 plan).bind fun r0_4 => some (r0_4, 0))
theorem k19 (x : HairBook) (plan : (List Int)) (r : Bool × Int) (h : g19 x plan = some r) : SCall Tryd.prog Gs 19 [.agg (cv25 x), .d (.sl 1 (List.map e3 plan))] [] 0 Fr.emp (match r with | (r0_2, r1_4) => .tup [.d (.bool r0_2), .d (I r1_4)]) [] 0 Fr.emp := by
 unfold g19 at h
 refine SCall.mkK Tryd.func19 c19 rfl rfl (by kernel_rfl) (fun Q_0 hR_0 hN_0 => ?_)
 refine AW.sa fokW [] ⟨[(2, .ptr 0 0), (3, .ptr 1 0)], [(1, .var 26 [.d (.sl 1 (List.map e3 plan))]), (0, .var 25 (cv25 x))], 2, Fr.emp, [], 0⟩ (by kernel_rfl) ?_
 refine AW.srwK (fun Q_1 hQ_1 => ?_)
 refine RW.au fokW 2 [] ⟨[(3, .ptr 1 0), (9, .agg (cv25 x)), (10, .clo 65 [] [.ptr 1 0])], [(1, .var 26 [.d (.sl 1 (List.map e3 plan))])], 2, Fr.emp, [], 0⟩ (by kernel_rfl) ?_
 obtain ⟨r_10, hx_2, h⟩ := bsome h
 rcases r_10 with (⟨r0_B4, r1_1⟩ | (⟨r0_B5, mf2, r1_2⟩))
 ·refine RW.one fokW (r_callS (zr := []) [1] trivial rfl (k55a x plan _ hx_2) ⟨rfl, trivial⟩ rfl rfl ⟨.refl _, .refl _, trivial⟩ rfl rfl rfl (r_end ?_))
  obtain ⟨_, hv_3, h⟩ := bsome h
  have hf_4 := must_ok hv_3
  refine RW.au fokW 6 [] ⟨[(3, .ptr 1 0), (6, .ptr 2 0), (7, .d (I r1_1))], [(2, .var 78 (catV (cv25 r0_B4) [.d (.nilMap)])), (1, .var 26 [.d (.sl 1 (List.map e3 plan))])], 3, Fr.emp, [], 0⟩ (by kernel_rfl) ?_
  refine RW.nil ?_
  refine hQ_1 _ ?_
  refine AW.seqK (fun K_5 hK_5 => ?_)
  refine AW.sa fokW [] ⟨[(3, .ptr 1 0), (6, .ptr 2 0), (7, .d (I r1_1)), (15, .d (.bool (decide (r1_1 ≠ 0))))], [(2, .var 78 (catV (cv25 r0_B4) [.d (.nilMap)])), (1, .var 26 [.d (.sl 1 (List.map e3 plan))])], 3, Fr.emp, [], 0⟩ (by kernel_rfl) ?_
  refine AW.cond rfl (fun hb_6 => ?_) (fun hb_6 => False.elim (by rw [hf_4] at hb_6; cases hb_6))
  refine AW.sa fokW [] ⟨[(4, .d (.bool false)), (5, .d (I r1_1))], [], 3, Fr.emp, [], 0⟩ (by kernel_rfl) ?_
  obtain rfl := Option.some.inj h
  exact AW.ret (hR_0 _ (retX (.cons (.tmp rfl) (.cons (.tmp rfl) .nil)) (.refl _) rfl (by kernel_rfl) (by kernel_rfl)))
 ·refine RW.one fokW (r_callS (zr := []) [1] trivial rfl (k55a x plan _ hx_2) ⟨rfl, trivial⟩ rfl rfl ⟨.refl _, .refl _, trivial⟩ rfl rfl rfl (r_end ?_))
  refine RW.au fokW 6 [] ⟨[(3, .ptr 1 0), (6, .ptr 2 0), (7, .d (I r1_2))], [(2, .var 78 (hbm r0_B5 mf2)), (1, .var 26 [.d (.sl 1 (List.map e3 plan))])], 3, Fr.emp, [], 0⟩ (by kernel_rfl) ?_
  refine RW.nil ?_
  refine hQ_1 _ ?_
  refine AW.seqK (fun K_7 hK_7 => ?_)
  refine AW.sa fokW [] ⟨[(3, .ptr 1 0), (6, .ptr 2 0), (7, .d (I r1_2)), (15, .d (.bool (decide (r1_2 ≠ 0))))], [(2, .var 78 (hbm r0_B5 mf2)), (1, .var 26 [.d (.sl 1 (List.map e3 plan))])], 3, Fr.emp, [], 0⟩ (by kernel_rfl) ?_
  refine AW.cond rfl (fun hb_8 => ?_) (fun hb_8 => ?_)
  ·have h := ifT hb_8 h
   refine AW.sa fokW [] ⟨[(4, .d (.bool false)), (5, .d (I r1_2))], [], 3, Fr.emp, [], 0⟩ (by kernel_rfl) ?_
   obtain rfl := Option.some.inj h
   exact AW.ret (hR_0 _ (retX (.cons (.tmp rfl) (.cons (.tmp rfl) .nil)) (.refl _) rfl (by kernel_rfl) (by kernel_rfl)))
  ·have h := ifF hb_8 h
   refine AW.skip ?_
   refine hK_7 _ ?_
   refine AW.srwK (fun Q_9 hQ_9 => ?_)
   refine RW.au fokW 2 [] ⟨[(17, .agg (hbm r0_B5 mf2)), (18, .d (.sl 1 (List.map e3 plan)))], [], 3, Fr.emp, [], 0⟩ (by kernel_rfl) ?_
   obtain ⟨r0_4, hx_10, h⟩ := bsome h
   refine RW.one fokW (r_call trivial rfl (k67 r0_B5 mf2 plan _ hx_10) rfl rfl (r_end ?_))
   refine RW.au fokW 2 [] ⟨[(4, .d (.bool r0_4)), (5, .d (I 0))], [], 3, Fr.emp, [], 0⟩ (by kernel_rfl) ?_
   refine RW.nil ?_
   refine hQ_9 _ ?_
   obtain rfl := Option.some.inj h
   exact AW.ret (hR_0 _ (retX (.cons (.tmp rfl) (.cons (.tmp rfl) .nil)) (.refl _) rfl (by kernel_rfl) (by kernel_rfl)))
def g70 (b_B : HairBook) (mf : List (Hair_dye × Span)) (o0 : (List Int)) (o1 : Int) : Option Bool := (g66 b_B mf o0).bind fun r0_1 => (bif r0_1 then ((g67 b_B mf o0).bind fun r0_4 => some r0_4) else (some false)).bind fun v => (bif v then ((g58 b_B mf o1).bind fun r0_1_1 => some r0_1_1) else (some false)).bind fun v1 => some v1
theorem k70 (b_B : HairBook) (mf : List (Hair_dye × Span)) (o0 : (List Int)) (o1 : Int) (r : Bool) (h : g70 b_B mf o0 o1 = some r) : SCall Tryd.prog Gs 70 [.agg (hbm b_B mf), .ptr 0 0, .ptr 1 0] [(0, .var 26 [.d (.sl 1 (List.map e3 o0))]), (1, .var 3 [.d (I o1)])] 2 Fr.emp (.d (.bool r)) [(0, .var 26 [.d (.sl 1 (List.map e3 o0))]), (1, .var 3 [.d (I o1)])] 2 Fr.emp := by
 unfold g70 at h
 refine SCall.mkK Tryd.func70 c70 rfl rfl (by kernel_rfl) (fun Q_0 hR_0 hN_0 => ?_)
 refine AW.sa fokW [] ⟨[(1, .ptr 0 0), (2, .ptr 1 0), (3, .ptr 2 0)], [(2, .var 78 (hbm b_B mf)), (0, .var 26 [.d (.sl 1 (List.map e3 o0))]), (1, .var 3 [.d (I o1)])], 3, Fr.emp, [], 2⟩ (by kernel_rfl) ?_
 refine AW.srwK (fun Q_1 hQ_1 => ?_)
 refine RW.au fokW 2 [] ⟨[(1, .ptr 0 0), (2, .ptr 1 0), (3, .ptr 2 0), (5, .agg (hbm b_B mf)), (6, .d (.sl 1 (List.map e3 o0)))], [(2, .var 78 (hbm b_B mf)), (0, .var 26 [.d (.sl 1 (List.map e3 o0))]), (1, .var 3 [.d (I o1)])], 3, Fr.emp, [], 2⟩ (by kernel_rfl) ?_
 obtain ⟨r0_1, hx_2, h⟩ := bsome h
 refine RW.one fokW (r_call trivial rfl (k66 b_B mf o0 _ hx_2) rfl rfl (r_end ?_))
 refine RW.au fokW 1 [] ⟨[(1, .ptr 0 0), (2, .ptr 1 0), (3, .ptr 2 0), (8, .d (.bool r0_1))], [(2, .var 78 (hbm b_B mf)), (0, .var 26 [.d (.sl 1 (List.map e3 o0))]), (1, .var 3 [.d (I o1)])], 3, Fr.emp, [], 2⟩ (by kernel_rfl) ?_
 obtain ⟨v, hx_3, h⟩ := bsome h
 refine RW.cut fokW 4 (⟨[(2, .ptr 1 0), (3, .ptr 2 0), (12, .d (.bool v))], [(2, .var 78 (hbm b_B mf)), (0, .var 26 [.d (.sl 1 (List.map e3 o0))]), (1, .var 3 [.d (I o1)])], 3, Fr.emp, [], 2⟩) ?_ ?_
 ·refine r_split 8 rfl (fun hb_5 => ?_) (fun hb_5 => ?_)
  ·have h := ifT hb_5 hx_3
   refine RunC.auX 2 ⟨[(2, .ptr 1 0), (3, .ptr 2 0), (8, .d (.bool true)), (9, .agg (hbm b_B mf)), (10, .d (.sl 1 (List.map e3 o0)))], [(2, .var 78 (hbm b_B mf)), (0, .var 26 [.d (.sl 1 (List.map e3 o0))]), (1, .var 3 [.d (I o1)])], 3, Fr.emp, [], 2⟩ (by kernel_rfl) ?_
   obtain ⟨r0_4, hx_4, h⟩ := bsome h
   refine r_call rfl rfl (k67 b_B mf o0 _ hx_4) rfl rfl ?_
   refine RunC.auX 1 ⟨[(2, .ptr 1 0), (3, .ptr 2 0), (12, .d (.bool r0_4))], [(2, .var 78 (hbm b_B mf)), (0, .var 26 [.d (.sl 1 (List.map e3 o0))]), (1, .var 3 [.d (I o1)])], 3, Fr.emp, [], 2⟩ (by kernel_rfl) ?_
   obtain rfl := Option.some.inj h
   refine RunC.finJ (Can.kp (by kernel_rfl))
  ·have h := ifF hb_5 hx_3
   refine RunC.auX 4 ⟨[(2, .ptr 1 0), (3, .ptr 2 0), (12, .d (.bool false))], [(2, .var 78 (hbm b_B mf)), (0, .var 26 [.d (.sl 1 (List.map e3 o0))]), (1, .var 3 [.d (I o1)])], 3, Fr.emp, [], 2⟩ (by kernel_rfl) ?_
   obtain rfl := Option.some.inj h
   refine RunC.finJ (Can.kp (by kernel_rfl))
 ·refine RW.au fokW 1 [] ⟨[(2, .ptr 1 0), (3, .ptr 2 0), (13, .d (.bool v))], [(2, .var 78 (hbm b_B mf)), (0, .var 26 [.d (.sl 1 (List.map e3 o0))]), (1, .var 3 [.d (I o1)])], 3, Fr.emp, [], 2⟩ (by kernel_rfl) ?_
  obtain ⟨v1, hx_6, h⟩ := bsome h
  refine RW.cut fokW 4 (⟨[(17, .d (.bool v1))], [(0, .var 26 [.d (.sl 1 (List.map e3 o0))]), (1, .var 3 [.d (I o1)])], 3, Fr.emp, [], 2⟩) ?_ ?_
  ·refine r_split 13 rfl (fun hb_8 => ?_) (fun hb_8 => ?_)
   ·have h := ifT hb_8 hx_6
    refine RunC.auX 2 ⟨[(13, .d (.bool true)), (14, .agg (hbm b_B mf)), (15, .d (I o1))], [(2, .var 78 (hbm b_B mf)), (0, .var 26 [.d (.sl 1 (List.map e3 o0))]), (1, .var 3 [.d (I o1)])], 3, Fr.emp, [], 2⟩ (by kernel_rfl) ?_
    obtain ⟨r0_1_1, hx_7, h⟩ := bsome h
    refine r_call rfl rfl (k58 b_B mf o1 _ hx_7) rfl rfl ?_
    refine RunC.auX 1 ⟨[(17, .d (.bool r0_1_1))], [(2, .var 78 (hbm b_B mf)), (0, .var 26 [.d (.sl 1 (List.map e3 o0))]), (1, .var 3 [.d (I o1)])], 3, Fr.emp, [], 2⟩ (by kernel_rfl) ?_
    obtain rfl := Option.some.inj h
    refine RunC.finJ (Can.kp (by kernel_rfl))
   ·have h := ifF hb_8 hx_6
    refine RunC.auX 4 ⟨[(17, .d (.bool false))], [(2, .var 78 (hbm b_B mf)), (0, .var 26 [.d (.sl 1 (List.map e3 o0))]), (1, .var 3 [.d (I o1)])], 3, Fr.emp, [], 2⟩ (by kernel_rfl) ?_
    obtain rfl := Option.some.inj h
    refine RunC.finJ (Can.kp (by kernel_rfl))
  ·refine RW.au fokW 1 [] ⟨[(4, .d (.bool v1))], [(0, .var 26 [.d (.sl 1 (List.map e3 o0))]), (1, .var 3 [.d (I o1)])], 3, Fr.emp, [], 2⟩ (by kernel_rfl) ?_
   refine RW.nil ?_
   refine hQ_1 _ ?_
   obtain rfl := Option.some.inj h
   exact AW.ret (hR_0 _ (retX (.cons (.tmp rfl) .nil) (.refl _) rfl (by kernel_rfl) (by kernel_rfl)))
end Go.Proofs.Th
namespace Go.Proofs.Th
open Go Go.Abs Go.Proofs
def g55b (x : HairBook) (o0 : (List Int)) (o1 : Int) : Option (Ctl (HairBook × Int) (HairBook × (List (Hair_dye × Span)) × Int)) := (g17 x).bind fun r0_9 => bif (decide (r0_9 ≠ 0)) then (some (.next ((HairBook.mk [] [] 0 0 0), r0_9))) else ((g80 x).bind fun (r0_B, mf) => (g70 r0_B mf o0 o1).bind fun r0 => bif (!r0) then (some (.brk (r0_B, mf, 61))) else (some (.brk (r0_B, mf, 0))))
theorem k55b (x : HairBook) (o0 : (List Int)) (o1 : Int) (r : Ctl (HairBook × Int) (HairBook × (List (Hair_dye × Span)) × Int)) (h : g55b x o0 o1 = some r) : SCall Tryd.prog Gs 55 [.agg (cv25 x), .clo 70 [] [.ptr 0 0, .ptr 1 0]] [(0, .var 26 [.d (.sl 1 (List.map e3 o0))]), (1, .var 3 [.d (I o1)])] 2 Fr.emp (match r with | .next (r0_B4, r1_1) => .tup [.agg [.d (.sl 4 (List.map e58 r0_B4.Hanks)), .d (.sl 3 (List.map e69 r0_B4.Horses)), .d (I r0_B4.Dark), .d (I r0_B4.Near), .d (I r0_B4.Match), .d (.nilMap)], .d (I r1_1)] | .brk (r0_B5, mf2, r1_2) => .tup [.agg (hbm r0_B5 mf2), .d (I r1_2)]) (match r with | .next (r0_B4, r1_1) => [(0, .var 26 [.d (.sl 1 (List.map e3 o0))]), (1, .var 3 [.d (I o1)])] | .brk (r0_B5, mf2, r1_2) => [(0, .var 26 [.d (.sl 1 (List.map e3 o0))]), (1, .var 3 [.d (I o1)])]) 2 Fr.emp := by
 unfold g55b at h
 refine SCall.mkK Tryd.func55 c55 rfl (by rcases r with _ | _ <;> rfl) (by rcases r with _ | _ <;> kernel_rfl) (fun Q_0 hR_0 hN_0 => ?_)
 refine AW.sa fokW [] ⟨[(1, .clo 70 [] [.ptr 0 0, .ptr 1 0]), (2, .ptr 2 0), (4, .ptr 3 0)], [(3, .var 78 [.d (.nilSl), .d (.nilSl), .d (I 0), .d (I 0), .d (I 0), .d (.nilMap)]), (2, .var 25 (cv25 x)), (0, .var 26 [.d (.sl 1 (List.map e3 o0))]), (1, .var 3 [.d (I o1)])], 4, Fr.emp, [], 2⟩ (by kernel_rfl) ?_
 refine AW.seqK (fun K_1 hK_1 => ?_)
 refine AW.srwK (fun Q_2 hQ_2 => ?_)
 refine RW.au fokW 1 [] ⟨[(1, .clo 70 [] [.ptr 0 0, .ptr 1 0]), (2, .ptr 2 0), (4, .ptr 3 0), (8, .agg (cv25 x))], [(3, .var 78 [.d (.nilSl), .d (.nilSl), .d (I 0), .d (I 0), .d (I 0), .d (.nilMap)]), (2, .var 25 (cv25 x)), (0, .var 26 [.d (.sl 1 (List.map e3 o0))]), (1, .var 3 [.d (I o1)])], 4, Fr.emp, [], 2⟩ (by kernel_rfl) ?_
 obtain ⟨r0_9, hx_3, h⟩ := bsome h
 refine RW.one fokW (r_call trivial rfl (k17 x _ hx_3) rfl rfl (r_end ?_))
 refine RW.au fokW 1 [] ⟨[(1, .clo 70 [] [.ptr 0 0, .ptr 1 0]), (2, .ptr 2 0), (4, .ptr 3 0), (6, .d (I r0_9))], [(3, .var 78 [.d (.nilSl), .d (.nilSl), .d (I 0), .d (I 0), .d (I 0), .d (.nilMap)]), (2, .var 25 (cv25 x)), (0, .var 26 [.d (.sl 1 (List.map e3 o0))]), (1, .var 3 [.d (I o1)])], 4, Fr.emp, [], 2⟩ (by kernel_rfl) ?_
 refine RW.nil ?_
 refine hQ_2 _ ?_
 refine AW.sa fokW [] ⟨[(1, .clo 70 [] [.ptr 0 0, .ptr 1 0]), (2, .ptr 2 0), (4, .ptr 3 0), (6, .d (I r0_9)), (11, .d (.bool (decide (r0_9 ≠ 0))))], [(3, .var 78 [.d (.nilSl), .d (.nilSl), .d (I 0), .d (I 0), .d (I 0), .d (.nilMap)]), (2, .var 25 (cv25 x)), (0, .var 26 [.d (.sl 1 (List.map e3 o0))]), (1, .var 3 [.d (I o1)])], 4, Fr.emp, [], 2⟩ (by kernel_rfl) ?_
 refine AW.cond rfl (fun hb_4 => ?_) (fun hb_4 => ?_)
 ·have h := ifT hb_4 h
  refine AW.sa fokW [] ⟨[(4, .ptr 3 0), (5, .d (I r0_9))], [(3, .var 78 [.d (.nilSl), .d (.nilSl), .d (I 0), .d (I 0), .d (I 0), .d (.nilMap)]), (0, .var 26 [.d (.sl 1 (List.map e3 o0))]), (1, .var 3 [.d (I o1)])], 4, Fr.emp, [], 2⟩ (by kernel_rfl) ?_
  obtain rfl := Option.some.inj h
  exact AW.ret (hR_0 _ (retX (.cons (.agg rfl rfl (Nat.le_of_ble_eq_true rfl)) (.cons (.tmp rfl) .nil)) (Frz.tup_of ⟨Frz.agg_of ⟨(.nil 4), (.nil 3), .refl _, .refl _, .refl _, .refl _, trivial⟩, .refl _, trivial⟩) rfl (by kernel_rfl) (by kernel_rfl)))
 ·have h := ifF hb_4 h
  refine AW.skip ?_
  refine hK_1 _ ?_
  refine AW.srwK (fun Q_5 hQ_5 => ?_)
  refine RW.au fokW 1 [] ⟨[(1, .clo 70 [] [.ptr 0 0, .ptr 1 0]), (4, .ptr 3 0), (14, .agg (cv25 x))], [(3, .var 78 [.d (.nilSl), .d (.nilSl), .d (I 0), .d (I 0), .d (I 0), .d (.nilMap)]), (0, .var 26 [.d (.sl 1 (List.map e3 o0))]), (1, .var 3 [.d (I o1)])], 4, Fr.emp, [], 2⟩ (by kernel_rfl) ?_
  obtain ⟨⟨r0_B, mf⟩, hx_6, h⟩ := bsome h
  refine RW.one fokW (r_call trivial rfl (k80 x _ hx_6) rfl rfl (r_end ?_))
  refine RW.au fokW 2 [] ⟨[(1, .clo 70 [] [.ptr 0 0, .ptr 1 0]), (4, .ptr 3 0), (7, .ptr 4 0)], [(4, .var 78 (hbm r0_B mf)), (3, .var 78 [.d (.nilSl), .d (.nilSl), .d (I 0), .d (I 0), .d (I 0), .d (.nilMap)]), (0, .var 26 [.d (.sl 1 (List.map e3 o0))]), (1, .var 3 [.d (I o1)])], 5, Fr.emp, [], 2⟩ (by kernel_rfl) ?_
  refine RW.nil ?_
  refine hQ_5 _ ?_
  refine AW.seqK (fun K_7 hK_7 => ?_)
  refine AW.srwK (fun Q_8 hQ_8 => ?_)
  refine RW.au fokW 2 [] ⟨[(4, .ptr 3 0), (7, .ptr 4 0), (16, .clo 70 [] [.ptr 0 0, .ptr 1 0]), (17, .agg (hbm r0_B mf))], [(4, .var 78 (hbm r0_B mf)), (3, .var 78 [.d (.nilSl), .d (.nilSl), .d (I 0), .d (I 0), .d (I 0), .d (.nilMap)]), (0, .var 26 [.d (.sl 1 (List.map e3 o0))]), (1, .var 3 [.d (I o1)])], 5, Fr.emp, [], 2⟩ (by kernel_rfl) ?_
  obtain ⟨r0, hx_9, h⟩ := bsome h
  refine RW.one fokW (r_callvE (zr := []) [0, 1] trivial rfl (.clo _ _ _) (by kernel_rfl) rfl (k70 r0_B mf o0 o1 _ hx_9) ⟨rfl, rfl, trivial⟩ rfl rfl ⟨.refl _, .refl _, .refl _, trivial⟩ rfl rfl rfl (r_end ?_))
  refine RW.au fokW 1 [] ⟨[(4, .ptr 3 0), (7, .ptr 4 0), (19, .d (.bool (!r0)))], [(0, .var 26 [.d (.sl 1 (List.map e3 o0))]), (1, .var 3 [.d (I o1)]), (4, .var 78 (hbm r0_B mf)), (3, .var 78 [.d (.nilSl), .d (.nilSl), .d (I 0), .d (I 0), .d (I 0), .d (.nilMap)])], 5, Fr.emp, [], 2⟩ (by kernel_rfl) ?_
  refine RW.nil ?_
  refine hQ_8 _ ?_
  refine AW.cond rfl (fun hb_10 => ?_) (fun hb_10 => ?_)
  ·have h := ifT hb_10 h
   refine AW.sa fokW [] ⟨[(4, .ptr 3 0), (5, .d (I 61))], [(3, .var 78 (hbm r0_B mf)), (0, .var 26 [.d (.sl 1 (List.map e3 o0))]), (1, .var 3 [.d (I o1)])], 5, Fr.emp, [], 2⟩ (by kernel_rfl) ?_
   obtain rfl := Option.some.inj h
   exact AW.ret (hR_0 _ (retX (.cons (.agg rfl rfl (Nat.le_of_ble_eq_true rfl)) (.cons (.tmp rfl) .nil)) (.refl _) rfl (by kernel_rfl) (by kernel_rfl)))
  ·have h := ifF hb_10 h
   refine AW.skip ?_
   refine hK_7 _ ?_
   refine AW.sa fokW [] ⟨[(4, .ptr 3 0), (5, .d (I 0))], [(3, .var 78 (hbm r0_B mf)), (0, .var 26 [.d (.sl 1 (List.map e3 o0))]), (1, .var 3 [.d (I o1)])], 5, Fr.emp, [], 2⟩ (by kernel_rfl) ?_
   obtain rfl := Option.some.inj h
   exact AW.ret (hR_0 _ (retX (.cons (.agg rfl rfl (Nat.le_of_ble_eq_true rfl)) (.cons (.tmp rfl) .nil)) (.refl _) rfl (by kernel_rfl) (by kernel_rfl)))
def g21 (x : HairBook) (plan : (List Int)) (hank : Int) : Option (Span × Int) := (g55b x plan hank).bind fun r_12 => match r_12 with | .next (r0_B4, r1_1) => (must (decide (r1_1 ≠ 0))).bind fun _ => some ((Span.mk 0 0), r1_1) | .brk (r0_B5, mf2, r1_2) => bif (decide (r1_2 ≠ 0)) then (some ((Span.mk 0 0), r1_2)) else ((ixL x.Hanks hank).bind fun p => (g71 r0_B5 mf2 plan).bind fun r0_3 => (ixN 5 hank).bind fun j => some ((Span.mk (wr (p.Weight.Low - (r0_3 j))) (wr (p.Weight.High - (r0_3 j)))), 0))
theorem k21 (x : HairBook) (plan : (List Int)) (hank : Int) (r : Span × Int) (h : g21 x plan hank = some r) : SCall Tryd.prog Gs 21 [.agg (cv25 x), .d (.sl 1 (List.map e3 plan)), .d (I hank)] [] 0 Fr.emp (match r with | (r0_2, r1_4) => .tup [.agg [.d (I r0_2.Low), .d (I r0_2.High)], .d (I r1_4)]) [] 0 Fr.emp := by
 unfold g21 at h
 refine SCall.mkK Tryd.func21 c21 rfl rfl (by kernel_rfl) (fun Q_0 hR_0 hN_0 => ?_)
 refine AW.sa fokW [] ⟨[(3, .ptr 0 0), (4, .ptr 1 0), (5, .ptr 2 0), (6, .ptr 3 0)], [(3, .var 35 [.d (I 0), .d (I 0)]), (2, .var 3 [.d (I hank)]), (1, .var 26 [.d (.sl 1 (List.map e3 plan))]), (0, .var 25 (cv25 x))], 4, Fr.emp, [], 0⟩ (by kernel_rfl) ?_
 refine AW.srwK (fun Q_1 hQ_1 => ?_)
 refine RW.au fokW 2 [] ⟨[(3, .ptr 0 0), (4, .ptr 1 0), (5, .ptr 2 0), (6, .ptr 3 0), (13, .agg (cv25 x)), (14, .clo 70 [] [.ptr 1 0, .ptr 2 0])], [(3, .var 35 [.d (I 0), .d (I 0)]), (2, .var 3 [.d (I hank)]), (1, .var 26 [.d (.sl 1 (List.map e3 plan))]), (0, .var 25 (cv25 x))], 4, Fr.emp, [], 0⟩ (by kernel_rfl) ?_
 obtain ⟨r_12, hx_2, h⟩ := bsome h
 rcases r_12 with (⟨r0_B4, r1_1⟩ | (⟨r0_B5, mf2, r1_2⟩))
 ·refine RW.one fokW (r_callS (zr := []) [1, 2] trivial rfl (k55b x plan hank _ hx_2) ⟨rfl, rfl, trivial⟩ rfl rfl ⟨.refl _, .refl _, trivial⟩ rfl rfl rfl (r_end ?_))
  obtain ⟨_, hv_3, h⟩ := bsome h
  have hf_4 := must_ok hv_3
  refine RW.au fokW 6 [] ⟨[(3, .ptr 0 0), (4, .ptr 1 0), (5, .ptr 2 0), (6, .ptr 3 0), (8, .ptr 4 0), (9, .d (I r1_1))], [(4, .var 78 (catV (cv25 r0_B4) [.d (.nilMap)])), (1, .var 26 [.d (.sl 1 (List.map e3 plan))]), (2, .var 3 [.d (I hank)]), (3, .var 35 [.d (I 0), .d (I 0)]), (0, .var 25 (cv25 x))], 5, Fr.emp, [], 0⟩ (by kernel_rfl) ?_
  refine RW.nil ?_
  refine hQ_1 _ ?_
  refine AW.seqK (fun K_5 hK_5 => ?_)
  refine AW.sa fokW [] ⟨[(3, .ptr 0 0), (4, .ptr 1 0), (5, .ptr 2 0), (6, .ptr 3 0), (8, .ptr 4 0), (9, .d (I r1_1)), (19, .d (.bool (decide (r1_1 ≠ 0))))], [(4, .var 78 (catV (cv25 r0_B4) [.d (.nilMap)])), (1, .var 26 [.d (.sl 1 (List.map e3 plan))]), (2, .var 3 [.d (I hank)]), (3, .var 35 [.d (I 0), .d (I 0)]), (0, .var 25 (cv25 x))], 5, Fr.emp, [], 0⟩ (by kernel_rfl) ?_
  refine AW.cond rfl (fun hb_6 => ?_) (fun hb_6 => False.elim (by rw [hf_4] at hb_6; cases hb_6))
  refine AW.sa fokW [] ⟨[(6, .ptr 3 0), (7, .d (I r1_1))], [(3, .var 35 [.d (I 0), .d (I 0)])], 5, Fr.emp, [], 0⟩ (by kernel_rfl) ?_
  obtain rfl := Option.some.inj h
  exact AW.ret (hR_0 _ (retX (.cons (.agg rfl rfl (Nat.le_of_ble_eq_true rfl)) (.cons (.tmp rfl) .nil)) (.refl _) rfl (by kernel_rfl) (by kernel_rfl)))
 ·refine RW.one fokW (r_callS (zr := []) [1, 2] trivial rfl (k55b x plan hank _ hx_2) ⟨rfl, rfl, trivial⟩ rfl rfl ⟨.refl _, .refl _, trivial⟩ rfl rfl rfl (r_end ?_))
  refine RW.au fokW 6 [] ⟨[(3, .ptr 0 0), (4, .ptr 1 0), (5, .ptr 2 0), (6, .ptr 3 0), (8, .ptr 4 0), (9, .d (I r1_2))], [(4, .var 78 (hbm r0_B5 mf2)), (1, .var 26 [.d (.sl 1 (List.map e3 plan))]), (2, .var 3 [.d (I hank)]), (3, .var 35 [.d (I 0), .d (I 0)]), (0, .var 25 (cv25 x))], 5, Fr.emp, [], 0⟩ (by kernel_rfl) ?_
  refine RW.nil ?_
  refine hQ_1 _ ?_
  refine AW.seqK (fun K_7 hK_7 => ?_)
  refine AW.sa fokW [] ⟨[(3, .ptr 0 0), (4, .ptr 1 0), (5, .ptr 2 0), (6, .ptr 3 0), (8, .ptr 4 0), (9, .d (I r1_2)), (19, .d (.bool (decide (r1_2 ≠ 0))))], [(4, .var 78 (hbm r0_B5 mf2)), (1, .var 26 [.d (.sl 1 (List.map e3 plan))]), (2, .var 3 [.d (I hank)]), (3, .var 35 [.d (I 0), .d (I 0)]), (0, .var 25 (cv25 x))], 5, Fr.emp, [], 0⟩ (by kernel_rfl) ?_
  refine AW.cond rfl (fun hb_8 => ?_) (fun hb_8 => ?_)
  ·have h := ifT hb_8 h
   refine AW.sa fokW [] ⟨[(6, .ptr 3 0), (7, .d (I r1_2))], [(3, .var 35 [.d (I 0), .d (I 0)])], 5, Fr.emp, [], 0⟩ (by kernel_rfl) ?_
   obtain rfl := Option.some.inj h
   exact AW.ret (hR_0 _ (retX (.cons (.agg rfl rfl (Nat.le_of_ble_eq_true rfl)) (.cons (.tmp rfl) .nil)) (.refl _) rfl (by kernel_rfl) (by kernel_rfl)))
  ·have h := ifF hb_8 h
   refine AW.skip ?_
   refine hK_7 _ ?_
   refine AW.sdrwK fokW (fun Q_9 hQ_9 => ?_)
   refine RunC.auX 3 ⟨[(4, .ptr 1 0), (5, .ptr 2 0), (6, .ptr 3 0), (8, .ptr 4 0), (23, .d (.sl 4 (List.map e58 x.Hanks))), (24, .d (I hank))], [(4, .var 78 (hbm r0_B5 mf2)), (1, .var 26 [.d (.sl 1 (List.map e3 plan))]), (2, .var 3 [.d (I hank)]), (3, .var 35 [.d (I 0), .d (I 0)]), (0, .var 25 (cv25 x))], 5, Fr.emp, [], 0⟩ (by kernel_rfl) ?_
   obtain ⟨p, hv_10, h⟩ := bsome h
   refine r_iaD trivial rfl rfl (ixL_ok hv_10).1 (row := e58 p) (mapget (ixL_ok hv_10).2) ?_
   refine RunC.auX 4 ⟨[(5, .ptr 2 0), (6, .ptr 3 0), (27, .agg [.d (I p.Weight.Low), .d (I p.Weight.High)]), (28, .agg (hbm r0_B5 mf2)), (29, .d (.sl 1 (List.map e3 plan)))], [(4, .var 78 (hbm r0_B5 mf2)), (1, .var 26 [.d (.sl 1 (List.map e3 plan))]), (2, .var 3 [.d (I hank)]), (3, .var 35 [.d (I 0), .d (I 0)]), (0, .var 25 (cv25 x))], 5, Fr.emp, [], 0⟩ (by kernel_rfl) ?_
   obtain ⟨r0_3, hx_11, h⟩ := bsome h
   refine r_call trivial rfl (k71 r0_B5 mf2 plan _ hx_11) rfl rfl ?_
   refine RunC.auX 1 ⟨[(6, .ptr 3 0), (27, .agg [.d (I p.Weight.Low), .d (I p.Weight.High)]), (30, .agg (c5 r0_3)), (31, .d (I hank))], [(4, .var 78 (hbm r0_B5 mf2)), (1, .var 26 [.d (.sl 1 (List.map e3 plan))]), (2, .var 3 [.d (I hank)]), (3, .var 35 [.d (I 0), .d (I 0)]), (0, .var 25 (cv25 x))], 5, Fr.emp, [], 0⟩ (by kernel_rfl) ?_
   obtain ⟨j, hv_12, h⟩ := bsome h
   refine r_idx trivial rfl rfl (ixN_ok hv_12).1 (ixN_ok hv_12).2.1 (u := .d (I (r0_3 j))) (agt (f := fun k => .d (I (r0_3 k))) hv_12) ?_
   refine RunC.auX 3 ⟨[(6, .ptr 3 0), (10, .ptr 5 0), (11, .d (I (r0_3 j)))], [(5, .var 35 [.d (I p.Weight.Low), .d (I p.Weight.High)]), (4, .var 78 (hbm r0_B5 mf2)), (1, .var 26 [.d (.sl 1 (List.map e3 plan))]), (2, .var 3 [.d (I hank)]), (3, .var 35 [.d (I 0), .d (I 0)]), (0, .var 25 (cv25 x))], 6, Fr.emp, [], 0⟩ (by kernel_rfl) ?_
   refine RunC.fin ⟨[(6, .ptr 3 0), (10, .ptr 5 0), (11, .d (I (r0_3 j)))], [(5, .var 35 [.d (I p.Weight.Low), .d (I p.Weight.High)]), (3, .var 35 [.d (I 0), .d (I 0)])], 6, Fr.emp, [], 0⟩ (by kernel_rfl) (by kernel_rfl) ?_
   refine hQ_9 _ ?_
   refine AW.sa fokW [] ⟨[(6, .ptr 3 0), (7, .d (I 0))], [(3, .var 35 [.d (I (wr (p.Weight.Low - (r0_3 j)))), .d (I (wr (p.Weight.High - (r0_3 j))))])], 6, Fr.emp, [], 0⟩ (by kernel_rfl) ?_
   obtain rfl := Option.some.inj h
   exact AW.ret (hR_0 _ (retX (.cons (.agg rfl rfl (Nat.le_of_ble_eq_true rfl)) (.cons (.tmp rfl) .nil)) (.refl _) rfl (by kernel_rfl) (by kernel_rfl)))
def g44 (low : Int) (high : Int) : Option Span := some (Span.mk low high)
theorem k44 (low : Int) (high : Int) (r : Span) (h : g44 low high = some r) : SCall Tryd.prog Gs 44 [.d (I low), .d (I high)] [] 0 Fr.emp (.agg [.d (I r.Low), .d (I r.High)]) [] 0 Fr.emp := by
 unfold g44 at h
 refine SCall.mkK Tryd.func44 c44 rfl rfl (by kernel_rfl) (fun Q_0 hR_0 hN_0 => ?_)
 refine AW.sa fokW [] ⟨[(0, .d (I low)), (1, .d (I high)), (4, .ptr 0 0)], [(0, .var 35 [.d (I 0), .d (I 0)])], 1, Fr.emp, [], 0⟩ (by kernel_rfl) ?_
 refine AW.sa fokW [] ⟨[(4, .ptr 0 0)], [(0, .var 35 [.d (I low), .d (I high)])], 1, Fr.emp, [], 0⟩ (by kernel_rfl) ?_
 obtain rfl := Option.some.inj h
 exact AW.ret (hR_0 _ (retX (.cons (.agg rfl rfl (Nat.le_of_ble_eq_true rfl)) .nil) (.refl _) rfl (by kernel_rfl) (by kernel_rfl)))
def g74 (b_B : HairBook) (mf : List (Hair_dye × Span)) (o0 : (List Int)) : Option Bool := (g66 b_B mf o0).bind fun r0_1 => (bif r0_1 then ((g67 b_B mf o0).bind fun r0_4 => some r0_4) else (some false)).bind fun v => some v
theorem k74 (b_B : HairBook) (mf : List (Hair_dye × Span)) (o0 : (List Int)) (r : Bool) (h : g74 b_B mf o0 = some r) : SCall Tryd.prog Gs 74 [.agg (hbm b_B mf), .ptr 0 0] [(0, .var 26 [.d (.sl 1 (List.map e3 o0))])] 1 Fr.emp (.d (.bool r)) [(0, .var 26 [.d (.sl 1 (List.map e3 o0))])] 1 Fr.emp := by
 unfold g74 at h
 refine SCall.mkK Tryd.func74 c74 rfl rfl (by kernel_rfl) (fun Q_0 hR_0 hN_0 => ?_)
 refine AW.sa fokW [] ⟨[(1, .ptr 0 0), (2, .ptr 1 0)], [(1, .var 78 (hbm b_B mf)), (0, .var 26 [.d (.sl 1 (List.map e3 o0))])], 2, Fr.emp, [], 1⟩ (by kernel_rfl) ?_
 refine AW.srwK (fun Q_1 hQ_1 => ?_)
 refine RW.au fokW 2 [] ⟨[(1, .ptr 0 0), (2, .ptr 1 0), (4, .agg (hbm b_B mf)), (5, .d (.sl 1 (List.map e3 o0)))], [(1, .var 78 (hbm b_B mf)), (0, .var 26 [.d (.sl 1 (List.map e3 o0))])], 2, Fr.emp, [], 1⟩ (by kernel_rfl) ?_
 obtain ⟨r0_1, hx_2, h⟩ := bsome h
 refine RW.one fokW (r_call trivial rfl (k66 b_B mf o0 _ hx_2) rfl rfl (r_end ?_))
 refine RW.au fokW 1 [] ⟨[(1, .ptr 0 0), (2, .ptr 1 0), (7, .d (.bool r0_1))], [(1, .var 78 (hbm b_B mf)), (0, .var 26 [.d (.sl 1 (List.map e3 o0))])], 2, Fr.emp, [], 1⟩ (by kernel_rfl) ?_
 obtain ⟨v, hx_3, h⟩ := bsome h
 refine RW.cut fokW 4 (⟨[(11, .d (.bool v))], [(0, .var 26 [.d (.sl 1 (List.map e3 o0))])], 2, Fr.emp, [], 1⟩) ?_ ?_
 ·refine r_split 7 rfl (fun hb_5 => ?_) (fun hb_5 => ?_)
  ·have h := ifT hb_5 hx_3
   refine RunC.auX 2 ⟨[(7, .d (.bool true)), (8, .agg (hbm b_B mf)), (9, .d (.sl 1 (List.map e3 o0)))], [(1, .var 78 (hbm b_B mf)), (0, .var 26 [.d (.sl 1 (List.map e3 o0))])], 2, Fr.emp, [], 1⟩ (by kernel_rfl) ?_
   obtain ⟨r0_4, hx_4, h⟩ := bsome h
   refine r_call rfl rfl (k67 b_B mf o0 _ hx_4) rfl rfl ?_
   refine RunC.auX 1 ⟨[(11, .d (.bool r0_4))], [(1, .var 78 (hbm b_B mf)), (0, .var 26 [.d (.sl 1 (List.map e3 o0))])], 2, Fr.emp, [], 1⟩ (by kernel_rfl) ?_
   obtain rfl := Option.some.inj h
   refine RunC.finJ (Can.kp (by kernel_rfl))
  ·have h := ifF hb_5 hx_3
   refine RunC.auX 4 ⟨[(11, .d (.bool false))], [(1, .var 78 (hbm b_B mf)), (0, .var 26 [.d (.sl 1 (List.map e3 o0))])], 2, Fr.emp, [], 1⟩ (by kernel_rfl) ?_
   obtain rfl := Option.some.inj h
   refine RunC.finJ (Can.kp (by kernel_rfl))
 ·refine RW.au fokW 1 [] ⟨[(3, .d (.bool v))], [(0, .var 26 [.d (.sl 1 (List.map e3 o0))])], 2, Fr.emp, [], 1⟩ (by kernel_rfl) ?_
  refine RW.nil ?_
  refine hQ_1 _ ?_
  obtain rfl := Option.some.inj h
  exact AW.ret (hR_0 _ (retX (.cons (.tmp rfl) .nil) (.refl _) rfl (by kernel_rfl) (by kernel_rfl)))
def g55c (x : HairBook) (o0 : (List Int)) : Option (Ctl (HairBook × Int) (HairBook × (List (Hair_dye × Span)) × Int)) := (g17 x).bind fun r0_9 => bif (decide (r0_9 ≠ 0)) then (some (.next ((HairBook.mk [] [] 0 0 0), r0_9))) else ((g80 x).bind fun (r0_B, mf) => (g74 r0_B mf o0).bind fun r0 => bif (!r0) then (some (.brk (r0_B, mf, 61))) else (some (.brk (r0_B, mf, 0))))
theorem k55c (x : HairBook) (o0 : (List Int)) (r : Ctl (HairBook × Int) (HairBook × (List (Hair_dye × Span)) × Int)) (h : g55c x o0 = some r) : SCall Tryd.prog Gs 55 [.agg (cv25 x), .clo 74 [] [.ptr 0 0]] [(0, .var 26 [.d (.sl 1 (List.map e3 o0))])] 1 Fr.emp (match r with | .next (r0_B4, r1_1) => .tup [.agg [.d (.sl 4 (List.map e58 r0_B4.Hanks)), .d (.sl 3 (List.map e69 r0_B4.Horses)), .d (I r0_B4.Dark), .d (I r0_B4.Near), .d (I r0_B4.Match), .d (.nilMap)], .d (I r1_1)] | .brk (r0_B5, mf2, r1_2) => .tup [.agg (hbm r0_B5 mf2), .d (I r1_2)]) (match r with | .next (r0_B4, r1_1) => [(0, .var 26 [.d (.sl 1 (List.map e3 o0))])] | .brk (r0_B5, mf2, r1_2) => [(0, .var 26 [.d (.sl 1 (List.map e3 o0))])]) 1 Fr.emp := by
 unfold g55c at h
 refine SCall.mkK Tryd.func55 c55 rfl (by rcases r with _ | _ <;> rfl) (by rcases r with _ | _ <;> kernel_rfl) (fun Q_0 hR_0 hN_0 => ?_)
 refine AW.sa fokW [] ⟨[(1, .clo 74 [] [.ptr 0 0]), (2, .ptr 1 0), (4, .ptr 2 0)], [(2, .var 78 [.d (.nilSl), .d (.nilSl), .d (I 0), .d (I 0), .d (I 0), .d (.nilMap)]), (1, .var 25 (cv25 x)), (0, .var 26 [.d (.sl 1 (List.map e3 o0))])], 3, Fr.emp, [], 1⟩ (by kernel_rfl) ?_
 refine AW.seqK (fun K_1 hK_1 => ?_)
 refine AW.srwK (fun Q_2 hQ_2 => ?_)
 refine RW.au fokW 1 [] ⟨[(1, .clo 74 [] [.ptr 0 0]), (2, .ptr 1 0), (4, .ptr 2 0), (8, .agg (cv25 x))], [(2, .var 78 [.d (.nilSl), .d (.nilSl), .d (I 0), .d (I 0), .d (I 0), .d (.nilMap)]), (1, .var 25 (cv25 x)), (0, .var 26 [.d (.sl 1 (List.map e3 o0))])], 3, Fr.emp, [], 1⟩ (by kernel_rfl) ?_
 obtain ⟨r0_9, hx_3, h⟩ := bsome h
 refine RW.one fokW (r_call trivial rfl (k17 x _ hx_3) rfl rfl (r_end ?_))
 refine RW.au fokW 1 [] ⟨[(1, .clo 74 [] [.ptr 0 0]), (2, .ptr 1 0), (4, .ptr 2 0), (6, .d (I r0_9))], [(2, .var 78 [.d (.nilSl), .d (.nilSl), .d (I 0), .d (I 0), .d (I 0), .d (.nilMap)]), (1, .var 25 (cv25 x)), (0, .var 26 [.d (.sl 1 (List.map e3 o0))])], 3, Fr.emp, [], 1⟩ (by kernel_rfl) ?_
 refine RW.nil ?_
 refine hQ_2 _ ?_
 refine AW.sa fokW [] ⟨[(1, .clo 74 [] [.ptr 0 0]), (2, .ptr 1 0), (4, .ptr 2 0), (6, .d (I r0_9)), (11, .d (.bool (decide (r0_9 ≠ 0))))], [(2, .var 78 [.d (.nilSl), .d (.nilSl), .d (I 0), .d (I 0), .d (I 0), .d (.nilMap)]), (1, .var 25 (cv25 x)), (0, .var 26 [.d (.sl 1 (List.map e3 o0))])], 3, Fr.emp, [], 1⟩ (by kernel_rfl) ?_
 refine AW.cond rfl (fun hb_4 => ?_) (fun hb_4 => ?_)
 ·have h := ifT hb_4 h
  refine AW.sa fokW [] ⟨[(4, .ptr 2 0), (5, .d (I r0_9))], [(2, .var 78 [.d (.nilSl), .d (.nilSl), .d (I 0), .d (I 0), .d (I 0), .d (.nilMap)]), (0, .var 26 [.d (.sl 1 (List.map e3 o0))])], 3, Fr.emp, [], 1⟩ (by kernel_rfl) ?_
  obtain rfl := Option.some.inj h
  exact AW.ret (hR_0 _ (retX (.cons (.agg rfl rfl (Nat.le_of_ble_eq_true rfl)) (.cons (.tmp rfl) .nil)) (Frz.tup_of ⟨Frz.agg_of ⟨(.nil 4), (.nil 3), .refl _, .refl _, .refl _, .refl _, trivial⟩, .refl _, trivial⟩) rfl (by kernel_rfl) (by kernel_rfl)))
 ·have h := ifF hb_4 h
  refine AW.skip ?_
  refine hK_1 _ ?_
  refine AW.srwK (fun Q_5 hQ_5 => ?_)
  refine RW.au fokW 1 [] ⟨[(1, .clo 74 [] [.ptr 0 0]), (4, .ptr 2 0), (14, .agg (cv25 x))], [(2, .var 78 [.d (.nilSl), .d (.nilSl), .d (I 0), .d (I 0), .d (I 0), .d (.nilMap)]), (0, .var 26 [.d (.sl 1 (List.map e3 o0))])], 3, Fr.emp, [], 1⟩ (by kernel_rfl) ?_
  obtain ⟨⟨r0_B, mf⟩, hx_6, h⟩ := bsome h
  refine RW.one fokW (r_call trivial rfl (k80 x _ hx_6) rfl rfl (r_end ?_))
  refine RW.au fokW 2 [] ⟨[(1, .clo 74 [] [.ptr 0 0]), (4, .ptr 2 0), (7, .ptr 3 0)], [(3, .var 78 (hbm r0_B mf)), (2, .var 78 [.d (.nilSl), .d (.nilSl), .d (I 0), .d (I 0), .d (I 0), .d (.nilMap)]), (0, .var 26 [.d (.sl 1 (List.map e3 o0))])], 4, Fr.emp, [], 1⟩ (by kernel_rfl) ?_
  refine RW.nil ?_
  refine hQ_5 _ ?_
  refine AW.seqK (fun K_7 hK_7 => ?_)
  refine AW.srwK (fun Q_8 hQ_8 => ?_)
  refine RW.au fokW 2 [] ⟨[(4, .ptr 2 0), (7, .ptr 3 0), (16, .clo 74 [] [.ptr 0 0]), (17, .agg (hbm r0_B mf))], [(3, .var 78 (hbm r0_B mf)), (2, .var 78 [.d (.nilSl), .d (.nilSl), .d (I 0), .d (I 0), .d (I 0), .d (.nilMap)]), (0, .var 26 [.d (.sl 1 (List.map e3 o0))])], 4, Fr.emp, [], 1⟩ (by kernel_rfl) ?_
  obtain ⟨r0, hx_9, h⟩ := bsome h
  refine RW.one fokW (r_callvE (zr := []) [0] trivial rfl (.clo _ _ _) (by kernel_rfl) rfl (k74 r0_B mf o0 _ hx_9) ⟨rfl, trivial⟩ rfl rfl ⟨.refl _, .refl _, trivial⟩ rfl rfl rfl (r_end ?_))
  refine RW.au fokW 1 [] ⟨[(4, .ptr 2 0), (7, .ptr 3 0), (19, .d (.bool (!r0)))], [(0, .var 26 [.d (.sl 1 (List.map e3 o0))]), (3, .var 78 (hbm r0_B mf)), (2, .var 78 [.d (.nilSl), .d (.nilSl), .d (I 0), .d (I 0), .d (I 0), .d (.nilMap)])], 4, Fr.emp, [], 1⟩ (by kernel_rfl) ?_
  refine RW.nil ?_
  refine hQ_8 _ ?_
  refine AW.cond rfl (fun hb_10 => ?_) (fun hb_10 => ?_)
  ·have h := ifT hb_10 h
   refine AW.sa fokW [] ⟨[(4, .ptr 2 0), (5, .d (I 61))], [(2, .var 78 (hbm r0_B mf)), (0, .var 26 [.d (.sl 1 (List.map e3 o0))])], 4, Fr.emp, [], 1⟩ (by kernel_rfl) ?_
   obtain rfl := Option.some.inj h
   exact AW.ret (hR_0 _ (retX (.cons (.agg rfl rfl (Nat.le_of_ble_eq_true rfl)) (.cons (.tmp rfl) .nil)) (.refl _) rfl (by kernel_rfl) (by kernel_rfl)))
  ·have h := ifF hb_10 h
   refine AW.skip ?_
   refine hK_7 _ ?_
   refine AW.sa fokW [] ⟨[(4, .ptr 2 0), (5, .d (I 0))], [(2, .var 78 (hbm r0_B mf)), (0, .var 26 [.d (.sl 1 (List.map e3 o0))])], 4, Fr.emp, [], 1⟩ (by kernel_rfl) ?_
   obtain rfl := Option.some.inj h
   exact AW.ret (hR_0 _ (retX (.cons (.agg rfl rfl (Nat.le_of_ble_eq_true rfl)) (.cons (.tmp rfl) .nil)) (.refl _) rfl (by kernel_rfl) (by kernel_rfl)))
def g76  : Option Unit := some ()
theorem k76  (r : Unit) (h : g76 = some r) : SCall Tryd.prog Gs 76 [] [] 0 Fr.emp (.agg [.d (.fn 107)]) [] 0 Fr.emp := by
 unfold g76 at h
 refine SCall.mkK Tryd.func76 c76 rfl rfl (by kernel_rfl) (fun Q_0 hR_0 hN_0 => ?_)
 refine AW.sa fokW [] ⟨[(0, .ptr 0 0)], [(0, .var 99 [.d (.nilFn)])], 1, Fr.emp, [], 0⟩ (by kernel_rfl) ?_
 refine AW.sa fokW [] ⟨[(0, .ptr 0 0)], [(0, .var 99 [.d (.fn 107)])], 1, Fr.emp, [], 0⟩ (by kernel_rfl) ?_
 obtain rfl := Option.some.inj h
 exact AW.ret (hR_0 _ (retX (.cons (.agg rfl rfl (Nat.le_of_ble_eq_true rfl)) .nil) (.refl _) rfl (by kernel_rfl) (by kernel_rfl)))
def g107 (s : Span) : Option Int := some s.Low
theorem k107 (s : Span) (r : Int) (h : g107 s = some r) : SCall Tryd.prog Gs 107 [.agg [.d (I s.Low), .d (I s.High)]] [] 0 Fr.emp (.d (I r)) [] 0 Fr.emp := by
 unfold g107 at h
 refine SCall.mkK Tryd.func107 c107 rfl rfl (by kernel_rfl) (fun Q_0 hR_0 hN_0 => ?_)
 refine AW.sa fokW [] ⟨[(1, .ptr 0 0)], [(0, .var 35 [.d (I s.Low), .d (I s.High)])], 1, Fr.emp, [], 0⟩ (by kernel_rfl) ?_
 refine AW.sa fokW [] ⟨[(2, .d (I s.Low))], [], 1, Fr.emp, [], 0⟩ (by kernel_rfl) ?_
 obtain rfl := Option.some.inj h
 exact AW.ret (hR_0 _ (retX (.cons (.tmp rfl) .nil) (.refl _) rfl (by kernel_rfl) (by kernel_rfl)))
def g75_7 (cut : (Nat → Int)) : Int → HairHank → Int → Option Int := fun v p n => (ixN 5 v).bind fun j => bif (decide (0 < (cut j))) then ((g107 p.Weight).bind fun r0_1 => (ixN 5 v).bind fun j1 => some (wr (n + (wr (r0_1 - (cut j1)))))) else (some n)
def g75 (b_B : HairBook) (mf : List (Hair_dye × Span)) (cut : (Nat → Int)) : Option Int := (g105).bind fun r0 => bif (false != (((cut 0) == (r0 0)) && (((cut 1) == (r0 1)) && (((cut 2) == (r0 2)) && (((cut 3) == (r0 3)) && (((cut 4) == (r0 4)) && true)))))) then (some 0) else ((eachS (g75_7 cut) b_B.Hanks 0 0).bind fun n => some n)
theorem k75 (b_B : HairBook) (mf : List (Hair_dye × Span)) (cut : (Nat → Int)) (r : Int) (h : g75 b_B mf cut = some r) : SCall Tryd.prog Gs 75 [.agg (hbm b_B mf), .agg (c5 cut), .agg [.d (.fn 107)]] [] 0 Fr.emp (.d (I r)) [] 0 Fr.emp := by
 unfold g75 at h
 refine SCall.mkK Tryd.func75 c75 rfl rfl (by kernel_rfl) (fun Q_0 hR_0 hN_0 => ?_)
 refine AW.sa fokW [] ⟨[(3, .ptr 0 0), (4, .ptr 1 0), (5, .ptr 2 0)], [(2, .var 99 [.d (.fn 107)]), (1, .var 92 (c5 cut)), (0, .var 78 (hbm b_B mf))], 3, Fr.emp, [], 0⟩ (by kernel_rfl) ?_
 refine AW.sa fokW [] ⟨[(3, .ptr 0 0), (4, .ptr 1 0), (5, .ptr 2 0), (7, .d (I 0))], [(2, .var 99 [.d (.fn 107)]), (1, .var 92 (c5 cut)), (0, .var 78 (hbm b_B mf))], 3, Fr.emp, [], 0⟩ (by kernel_rfl) ?_
 refine AW.seqK (fun K_1 hK_1 => ?_)
 refine AW.sdrwK fokW (fun Q_2 hQ_2 => ?_)
 refine RunC.auX 1 ⟨[(3, .ptr 0 0), (4, .ptr 1 0), (5, .ptr 2 0), (7, .d (I 0)), (10, .agg (c5 cut))], [(2, .var 99 [.d (.fn 107)]), (1, .var 92 (c5 cut)), (0, .var 78 (hbm b_B mf))], 3, Fr.emp, [], 0⟩ (by kernel_rfl) ?_
 obtain ⟨r0, hx_3, h⟩ := bsome h
 refine r_call trivial rfl (k105 _ hx_3) rfl rfl ?_
 refine r_aeq trivial rfl rfl rfl rfl ft92 rfl rfl rfl ?_
 refine RunC.fin ⟨[(3, .ptr 0 0), (4, .ptr 1 0), (5, .ptr 2 0), (7, .d (I 0)), (12, .d (.bool (false != (((cut 0) == (r0 0)) && (((cut 1) == (r0 1)) && (((cut 2) == (r0 2)) && (((cut 3) == (r0 3)) && (((cut 4) == (r0 4)) && true))))))))], [(2, .var 99 [.d (.fn 107)]), (1, .var 92 (c5 cut)), (0, .var 78 (hbm b_B mf))], 3, Fr.emp, [], 0⟩ (by kernel_rfl) (by kernel_rfl) ?_
 refine hQ_2 _ ?_
 refine AW.cond rfl (fun hb_4 => ?_) (fun hb_4 => ?_)
 ·have h := ifT hb_4 h
  refine AW.sa fokW [] ⟨[(6, .d (I 0))], [], 3, Fr.emp, [], 0⟩ (by kernel_rfl) ?_
  obtain rfl := Option.some.inj h
  exact AW.ret (hR_0 _ (retX (.cons (.tmp rfl) .nil) (.refl _) rfl (by kernel_rfl) (by kernel_rfl)))
 ·have h := ifF hb_4 h
  refine AW.skip ?_
  refine hK_1 _ ?_
  refine AW.seqK (fun K_5 hK_5 => ?_)
  refine AW.srwK (fun Q_6 hQ_6 => ?_)
  refine RW.au fokW 3 [] ⟨[(4, .ptr 1 0), (5, .ptr 2 0), (7, .d (I 0)), (16, .d (.sl 4 (List.map e58 b_B.Hanks)))], [(2, .var 99 [.d (.fn 107)]), (1, .var 92 (c5 cut))], 3, Fr.emp, [], 0⟩ (by kernel_rfl) ?_
  refine RW.one fokW (r_lenX trivial rfl lenm (r_end ?_))
  refine RW.au fokW 1 [] ⟨[(4, .ptr 1 0), (5, .ptr 2 0), (7, .d (I 0)), (16, .d (.sl 4 (List.map e58 b_B.Hanks))), (17, .d (I (b_B.Hanks.length : Int))), (18, .d (I 0))], [(2, .var 99 [.d (.fn 107)]), (1, .var 92 (c5 cut))], 3, Fr.emp, [], 0⟩ (by kernel_rfl) ?_
  refine RW.nil ?_
  refine hQ_6 _ ?_
  refine AW.block ?_
  refine AW.sln (t := 16) rfl (fun hN_7 => ?_)
  rw [List.length_map] at hN_7
  obtain ⟨out_7, hx_7, h⟩ := bsome h
  refine AW.evSK (fun (v : Int) (n : Int) => ⟨[(4, .ptr 1 0), (5, .ptr 2 0), (7, .d (I n)), (16, .d (.sl 4 (List.map e58 b_B.Hanks))), (17, .d (I (b_B.Hanks.length : Int))), (18, .d (I v))], [(2, .var 99 [.d (.fn 107)]), (1, .var 92 (c5 cut))], 3, Fr.emp, [], 0⟩) (g75_7 cut) hx_7 (Can.kp (by kernel_rfl)) (fun v p n hi_7 hl_7 hp_7 c_7 h K_7 hK_7 => ?_) (fun v n hi_7 hl_7 hout => ?_)
  ·unfold g75_7 at h
   refine AW.sa fokW [] ⟨[(4, .ptr 1 0), (5, .ptr 2 0), (7, .d (I n)), (16, .d (.sl 4 (List.map e58 b_B.Hanks))), (17, .d (I (b_B.Hanks.length : Int))), (18, .d (I v)), (19, .d (.bool (decide (v < (b_B.Hanks.length : Int)))))], [(2, .var 99 [.d (.fn 107)]), (1, .var 92 (c5 cut))], 3, Fr.emp, [], 0⟩ (by kernel_rfl) ?_
   refine AW.seqK (fun K_8 hK_8 => ?_)
   refine AW.cond rfl (fun hb_9 => ?_) (fun hb_9 => False.elim (by have := of_decide_eq_false hb_9; omega))
   refine AW.skip ?_
   refine hK_8 _ ?_
   refine AW.seqK (fun K_10 hK_10 => ?_)
   refine AW.block ?_
   refine AW.srwK (fun Q_11 hQ_11 => ?_)
   refine RW.au fokW 1 [] ⟨[(4, .ptr 1 0), (5, .ptr 2 0), (7, .d (I n)), (16, .d (.sl 4 (List.map e58 b_B.Hanks))), (17, .d (I (b_B.Hanks.length : Int))), (18, .d (I v)), (20, .d (I v))], [(2, .var 99 [.d (.fn 107)]), (1, .var 92 (c5 cut))], 3, Fr.emp, [], 0⟩ (by kernel_rfl) ?_
   refine RW.one fokW (r_iaD trivial rfl rfl hi_7 (row := e58 p) (mapget hp_7) (r_end ?_))
   refine RW.au fokW 4 [] ⟨[(4, .ptr 1 0), (5, .ptr 2 0), (7, .d (I n)), (8, .d (I v)), (9, .ptr 3 0), (16, .d (.sl 4 (List.map e58 b_B.Hanks))), (17, .d (I (b_B.Hanks.length : Int))), (18, .d (I v))], [(3, .var 58 (cv58 p)), (2, .var 99 [.d (.fn 107)]), (1, .var 92 (c5 cut))], 4, Fr.emp, [], 0⟩ (by kernel_rfl) ?_
   refine RW.nil ?_
   refine hQ_11 _ ?_
   refine AW.srwK (fun Q_12 hQ_12 => ?_)
   refine RW.au fokW 1 [] ⟨[(4, .ptr 1 0), (5, .ptr 2 0), (7, .d (I n)), (8, .d (I v)), (9, .ptr 3 0), (16, .d (.sl 4 (List.map e58 b_B.Hanks))), (17, .d (I (b_B.Hanks.length : Int))), (18, .d (I v)), (23, .d (I v))], [(3, .var 58 (cv58 p)), (2, .var 99 [.d (.fn 107)]), (1, .var 92 (c5 cut))], 4, Fr.emp, [], 0⟩ (by kernel_rfl) ?_
   obtain ⟨j, hv_13, h⟩ := bsome h
   refine RW.one fokW (r_iaV trivial rfl rfl rfl (ixN_ok hv_13).1 (ixN_ok hv_13).2.1 (r_end ?_))
   refine RW.one fokW (r_loadV trivial rfl rfl (u := .d (I (cut j))) (agt (f := fun k => .d (I (cut k))) hv_13) (r_end ?_))
   refine RW.au fokW 1 [] ⟨[(4, .ptr 1 0), (5, .ptr 2 0), (7, .d (I n)), (8, .d (I v)), (9, .ptr 3 0), (16, .d (.sl 4 (List.map e58 b_B.Hanks))), (17, .d (I (b_B.Hanks.length : Int))), (18, .d (I v)), (26, .d (.bool (decide (0 < (cut j)))))], [(3, .var 58 (cv58 p)), (2, .var 99 [.d (.fn 107)]), (1, .var 92 (c5 cut))], 4, Fr.emp, [], 0⟩ (by kernel_rfl) ?_
   refine RW.nil ?_
   refine hQ_12 _ ?_
   refine AW.cond rfl (fun hb_14 => ?_) (fun hb_14 => ?_)
   ·have h := ifT hb_14 h
    refine AW.drw fokW ?_
    refine RunC.auX 5 ⟨[(4, .ptr 1 0), (5, .ptr 2 0), (8, .d (I v)), (16, .d (.sl 4 (List.map e58 b_B.Hanks))), (17, .d (I (b_B.Hanks.length : Int))), (18, .d (I v)), (27, .d (I n)), (29, .d (.fn 107)), (31, .agg [.d (I p.Weight.Low), .d (I p.Weight.High)])], [(3, .var 58 (cv58 p)), (2, .var 99 [.d (.fn 107)]), (1, .var 92 (c5 cut))], 4, Fr.emp, [], 0⟩ (by kernel_rfl) ?_
    obtain ⟨r0_1, hx_16, h⟩ := bsome h
    refine r_callvZ (zr := []) trivial rfl (.fn _) (by kernel_rfl) rfl (k107 p.Weight _ hx_16) trivial ⟨.refl _, trivial⟩ rfl rfl rfl rfl ?_
    refine RunC.auX 1 ⟨[(4, .ptr 1 0), (5, .ptr 2 0), (16, .d (.sl 4 (List.map e58 b_B.Hanks))), (17, .d (I (b_B.Hanks.length : Int))), (18, .d (I v)), (27, .d (I n)), (32, .d (I r0_1)), (33, .d (I v))], [(3, .var 58 (cv58 p)), (2, .var 99 [.d (.fn 107)]), (1, .var 92 (c5 cut))], 4, Fr.emp, [], 0⟩ (by kernel_rfl) ?_
    obtain ⟨j1, hv_17, h⟩ := bsome h
    refine r_iaV trivial rfl rfl rfl (ixN_ok hv_17).1 (ixN_ok hv_17).2.1 ?_
    refine r_loadV trivial rfl rfl (u := .d (I (cut j1))) (agt (f := fun k => .d (I (cut k))) hv_17) ?_
    refine RunC.auX 3 ⟨[(4, .ptr 1 0), (5, .ptr 2 0), (7, .d (I (wr (n + (wr (r0_1 - (cut j1))))))), (16, .d (.sl 4 (List.map e58 b_B.Hanks))), (17, .d (I (b_B.Hanks.length : Int))), (18, .d (I v))], [(3, .var 58 (cv58 p)), (2, .var 99 [.d (.fn 107)]), (1, .var 92 (c5 cut))], 4, Fr.emp, [], 0⟩ (by kernel_rfl) ?_
    refine RunC.fin ⟨[(4, .ptr 1 0), (5, .ptr 2 0), (7, .d (I (wr (n + (wr (r0_1 - (cut j1))))))), (16, .d (.sl 4 (List.map e58 b_B.Hanks))), (17, .d (I (b_B.Hanks.length : Int))), (18, .d (I v))], [(2, .var 99 [.d (.fn 107)]), (1, .var 92 (c5 cut))], 4, Fr.emp, [], 0⟩ (by kernel_rfl) (by kernel_rfl) ?_
    refine hK_10 _ ?_
    refine AW.ra fokW [] ⟨[(4, .ptr 1 0), (5, .ptr 2 0), (7, .d (I (wr (n + (wr (r0_1 - (cut j1))))))), (16, .d (.sl 4 (List.map e58 b_B.Hanks))), (17, .d (I (b_B.Hanks.length : Int))), (18, .d (I (wr (v + 1))))], [(2, .var 99 [.d (.fn 107)]), (1, .var 92 (c5 cut))], 4, Fr.emp, [], 0⟩ (by kernel_rfl) ?_
    obtain rfl := Option.some.inj h
    have ew : wr (v + 1) = v + 1 := inext (N := (b_B.Hanks.length : Int)) (by omega) (by omega) (by omega)
    rw [ew]
    exact hK_7 _ (Can.kp (by kernel_rfl))
   ·have h := ifF hb_14 h
    refine AW.skip ?_
    refine hK_10 _ ?_
    refine AW.ra fokW [] ⟨[(4, .ptr 1 0), (5, .ptr 2 0), (7, .d (I n)), (16, .d (.sl 4 (List.map e58 b_B.Hanks))), (17, .d (I (b_B.Hanks.length : Int))), (18, .d (I (wr (v + 1))))], [(2, .var 99 [.d (.fn 107)]), (1, .var 92 (c5 cut))], 4, Fr.emp, [], 0⟩ (by kernel_rfl) ?_
    obtain rfl := Option.some.inj h
    have ew : wr (v + 1) = v + 1 := inext (N := (b_B.Hanks.length : Int)) (by omega) (by omega) (by omega)
    rw [ew]
    exact hK_7 _ (Can.kp (by kernel_rfl))
  ·subst hout
   refine AW.sa fokW [] ⟨[(4, .ptr 1 0), (5, .ptr 2 0), (7, .d (I n)), (16, .d (.sl 4 (List.map e58 b_B.Hanks))), (17, .d (I (b_B.Hanks.length : Int))), (18, .d (I v)), (19, .d (.bool (decide (v < (b_B.Hanks.length : Int)))))], [(2, .var 99 [.d (.fn 107)]), (1, .var 92 (c5 cut))], 3, Fr.emp, [], 0⟩ (by kernel_rfl) ?_
   refine AW.seqK (fun K_18 hK_18 => ?_)
   refine AW.cond rfl (fun hb_19 => False.elim (by have := of_decide_eq_true hb_19; omega)) (fun hb_19 => ?_)
   refine AW.exit ?_
   refine hK_5 _ ?_
   refine AW.sa fokW [] ⟨[(6, .d (I n))], [], 3, Fr.emp, [], 0⟩ (by kernel_rfl) ?_
   obtain rfl := Option.some.inj h
   exact AW.ret (hR_0 _ (retX (.cons (.tmp rfl) .nil) (.refl _) rfl (by kernel_rfl) (by kernel_rfl)))
def g77  : Option Unit := some ()
theorem k77  (r : Unit) (h : g77 = some r) : SCall Tryd.prog Gs 77 [] [] 0 Fr.emp (.agg [.d (.fn 108)]) [] 0 Fr.emp := by
 unfold g77 at h
 refine SCall.mkK Tryd.func77 c77 rfl rfl (by kernel_rfl) (fun Q_0 hR_0 hN_0 => ?_)
 refine AW.sa fokW [] ⟨[(0, .ptr 0 0)], [(0, .var 99 [.d (.nilFn)])], 1, Fr.emp, [], 0⟩ (by kernel_rfl) ?_
 refine AW.sa fokW [] ⟨[(0, .ptr 0 0)], [(0, .var 99 [.d (.fn 108)])], 1, Fr.emp, [], 0⟩ (by kernel_rfl) ?_
 obtain rfl := Option.some.inj h
 exact AW.ret (hR_0 _ (retX (.cons (.agg rfl rfl (Nat.le_of_ble_eq_true rfl)) .nil) (.refl _) rfl (by kernel_rfl) (by kernel_rfl)))
def g108 (s : Span) : Option Int := some s.High
theorem k108 (s : Span) (r : Int) (h : g108 s = some r) : SCall Tryd.prog Gs 108 [.agg [.d (I s.Low), .d (I s.High)]] [] 0 Fr.emp (.d (I r)) [] 0 Fr.emp := by
 unfold g108 at h
 refine SCall.mkK Tryd.func108 c108 rfl rfl (by kernel_rfl) (fun Q_0 hR_0 hN_0 => ?_)
 refine AW.sa fokW [] ⟨[(1, .ptr 0 0)], [(0, .var 35 [.d (I s.Low), .d (I s.High)])], 1, Fr.emp, [], 0⟩ (by kernel_rfl) ?_
 refine AW.sa fokW [] ⟨[(2, .d (I s.High))], [], 1, Fr.emp, [], 0⟩ (by kernel_rfl) ?_
 obtain rfl := Option.some.inj h
 exact AW.ret (hR_0 _ (retX (.cons (.tmp rfl) .nil) (.refl _) rfl (by kernel_rfl) (by kernel_rfl)))
def g75a_7 (cut : (Nat → Int)) : Int → HairHank → Int → Option Int := fun v p n => (ixN 5 v).bind fun j => bif (decide (0 < (cut j))) then ((g108 p.Weight).bind fun r0_1 => (ixN 5 v).bind fun j1 => some (wr (n + (wr (r0_1 - (cut j1)))))) else (some n)
def g75a (b_B : HairBook) (mf : List (Hair_dye × Span)) (cut : (Nat → Int)) : Option Int := (g105).bind fun r0 => bif (false != (((cut 0) == (r0 0)) && (((cut 1) == (r0 1)) && (((cut 2) == (r0 2)) && (((cut 3) == (r0 3)) && (((cut 4) == (r0 4)) && true)))))) then (some 0) else ((eachS (g75a_7 cut) b_B.Hanks 0 0).bind fun n => some n)
theorem k75a (b_B : HairBook) (mf : List (Hair_dye × Span)) (cut : (Nat → Int)) (r : Int) (h : g75a b_B mf cut = some r) : SCall Tryd.prog Gs 75 [.agg (hbm b_B mf), .agg (c5 cut), .agg [.d (.fn 108)]] [] 0 Fr.emp (.d (I r)) [] 0 Fr.emp := by
 unfold g75a at h
 refine SCall.mkK Tryd.func75 c75 rfl rfl (by kernel_rfl) (fun Q_0 hR_0 hN_0 => ?_)
 refine AW.sa fokW [] ⟨[(3, .ptr 0 0), (4, .ptr 1 0), (5, .ptr 2 0)], [(2, .var 99 [.d (.fn 108)]), (1, .var 92 (c5 cut)), (0, .var 78 (hbm b_B mf))], 3, Fr.emp, [], 0⟩ (by kernel_rfl) ?_
 refine AW.sa fokW [] ⟨[(3, .ptr 0 0), (4, .ptr 1 0), (5, .ptr 2 0), (7, .d (I 0))], [(2, .var 99 [.d (.fn 108)]), (1, .var 92 (c5 cut)), (0, .var 78 (hbm b_B mf))], 3, Fr.emp, [], 0⟩ (by kernel_rfl) ?_
 refine AW.seqK (fun K_1 hK_1 => ?_)
 refine AW.sdrwK fokW (fun Q_2 hQ_2 => ?_)
 refine RunC.auX 1 ⟨[(3, .ptr 0 0), (4, .ptr 1 0), (5, .ptr 2 0), (7, .d (I 0)), (10, .agg (c5 cut))], [(2, .var 99 [.d (.fn 108)]), (1, .var 92 (c5 cut)), (0, .var 78 (hbm b_B mf))], 3, Fr.emp, [], 0⟩ (by kernel_rfl) ?_
 obtain ⟨r0, hx_3, h⟩ := bsome h
 refine r_call trivial rfl (k105 _ hx_3) rfl rfl ?_
 refine r_aeq trivial rfl rfl rfl rfl ft92 rfl rfl rfl ?_
 refine RunC.fin ⟨[(3, .ptr 0 0), (4, .ptr 1 0), (5, .ptr 2 0), (7, .d (I 0)), (12, .d (.bool (false != (((cut 0) == (r0 0)) && (((cut 1) == (r0 1)) && (((cut 2) == (r0 2)) && (((cut 3) == (r0 3)) && (((cut 4) == (r0 4)) && true))))))))], [(2, .var 99 [.d (.fn 108)]), (1, .var 92 (c5 cut)), (0, .var 78 (hbm b_B mf))], 3, Fr.emp, [], 0⟩ (by kernel_rfl) (by kernel_rfl) ?_
 refine hQ_2 _ ?_
 refine AW.cond rfl (fun hb_4 => ?_) (fun hb_4 => ?_)
 ·have h := ifT hb_4 h
  refine AW.sa fokW [] ⟨[(6, .d (I 0))], [], 3, Fr.emp, [], 0⟩ (by kernel_rfl) ?_
  obtain rfl := Option.some.inj h
  exact AW.ret (hR_0 _ (retX (.cons (.tmp rfl) .nil) (.refl _) rfl (by kernel_rfl) (by kernel_rfl)))
 ·have h := ifF hb_4 h
  refine AW.skip ?_
  refine hK_1 _ ?_
  refine AW.seqK (fun K_5 hK_5 => ?_)
  refine AW.srwK (fun Q_6 hQ_6 => ?_)
  refine RW.au fokW 3 [] ⟨[(4, .ptr 1 0), (5, .ptr 2 0), (7, .d (I 0)), (16, .d (.sl 4 (List.map e58 b_B.Hanks)))], [(2, .var 99 [.d (.fn 108)]), (1, .var 92 (c5 cut))], 3, Fr.emp, [], 0⟩ (by kernel_rfl) ?_
  refine RW.one fokW (r_lenX trivial rfl lenm (r_end ?_))
  refine RW.au fokW 1 [] ⟨[(4, .ptr 1 0), (5, .ptr 2 0), (7, .d (I 0)), (16, .d (.sl 4 (List.map e58 b_B.Hanks))), (17, .d (I (b_B.Hanks.length : Int))), (18, .d (I 0))], [(2, .var 99 [.d (.fn 108)]), (1, .var 92 (c5 cut))], 3, Fr.emp, [], 0⟩ (by kernel_rfl) ?_
  refine RW.nil ?_
  refine hQ_6 _ ?_
  refine AW.block ?_
  refine AW.sln (t := 16) rfl (fun hN_7 => ?_)
  rw [List.length_map] at hN_7
  obtain ⟨out_7, hx_7, h⟩ := bsome h
  refine AW.evSK (fun (v : Int) (n : Int) => ⟨[(4, .ptr 1 0), (5, .ptr 2 0), (7, .d (I n)), (16, .d (.sl 4 (List.map e58 b_B.Hanks))), (17, .d (I (b_B.Hanks.length : Int))), (18, .d (I v))], [(2, .var 99 [.d (.fn 108)]), (1, .var 92 (c5 cut))], 3, Fr.emp, [], 0⟩) (g75a_7 cut) hx_7 (Can.kp (by kernel_rfl)) (fun v p n hi_7 hl_7 hp_7 c_7 h K_7 hK_7 => ?_) (fun v n hi_7 hl_7 hout => ?_)
  ·unfold g75a_7 at h
   refine AW.sa fokW [] ⟨[(4, .ptr 1 0), (5, .ptr 2 0), (7, .d (I n)), (16, .d (.sl 4 (List.map e58 b_B.Hanks))), (17, .d (I (b_B.Hanks.length : Int))), (18, .d (I v)), (19, .d (.bool (decide (v < (b_B.Hanks.length : Int)))))], [(2, .var 99 [.d (.fn 108)]), (1, .var 92 (c5 cut))], 3, Fr.emp, [], 0⟩ (by kernel_rfl) ?_
   refine AW.seqK (fun K_8 hK_8 => ?_)
   refine AW.cond rfl (fun hb_9 => ?_) (fun hb_9 => False.elim (by have := of_decide_eq_false hb_9; omega))
   refine AW.skip ?_
   refine hK_8 _ ?_
   refine AW.seqK (fun K_10 hK_10 => ?_)
   refine AW.block ?_
   refine AW.srwK (fun Q_11 hQ_11 => ?_)
   refine RW.au fokW 1 [] ⟨[(4, .ptr 1 0), (5, .ptr 2 0), (7, .d (I n)), (16, .d (.sl 4 (List.map e58 b_B.Hanks))), (17, .d (I (b_B.Hanks.length : Int))), (18, .d (I v)), (20, .d (I v))], [(2, .var 99 [.d (.fn 108)]), (1, .var 92 (c5 cut))], 3, Fr.emp, [], 0⟩ (by kernel_rfl) ?_
   refine RW.one fokW (r_iaD trivial rfl rfl hi_7 (row := e58 p) (mapget hp_7) (r_end ?_))
   refine RW.au fokW 4 [] ⟨[(4, .ptr 1 0), (5, .ptr 2 0), (7, .d (I n)), (8, .d (I v)), (9, .ptr 3 0), (16, .d (.sl 4 (List.map e58 b_B.Hanks))), (17, .d (I (b_B.Hanks.length : Int))), (18, .d (I v))], [(3, .var 58 (cv58 p)), (2, .var 99 [.d (.fn 108)]), (1, .var 92 (c5 cut))], 4, Fr.emp, [], 0⟩ (by kernel_rfl) ?_
   refine RW.nil ?_
   refine hQ_11 _ ?_
   refine AW.srwK (fun Q_12 hQ_12 => ?_)
   refine RW.au fokW 1 [] ⟨[(4, .ptr 1 0), (5, .ptr 2 0), (7, .d (I n)), (8, .d (I v)), (9, .ptr 3 0), (16, .d (.sl 4 (List.map e58 b_B.Hanks))), (17, .d (I (b_B.Hanks.length : Int))), (18, .d (I v)), (23, .d (I v))], [(3, .var 58 (cv58 p)), (2, .var 99 [.d (.fn 108)]), (1, .var 92 (c5 cut))], 4, Fr.emp, [], 0⟩ (by kernel_rfl) ?_
   obtain ⟨j, hv_13, h⟩ := bsome h
   refine RW.one fokW (r_iaV trivial rfl rfl rfl (ixN_ok hv_13).1 (ixN_ok hv_13).2.1 (r_end ?_))
   refine RW.one fokW (r_loadV trivial rfl rfl (u := .d (I (cut j))) (agt (f := fun k => .d (I (cut k))) hv_13) (r_end ?_))
   refine RW.au fokW 1 [] ⟨[(4, .ptr 1 0), (5, .ptr 2 0), (7, .d (I n)), (8, .d (I v)), (9, .ptr 3 0), (16, .d (.sl 4 (List.map e58 b_B.Hanks))), (17, .d (I (b_B.Hanks.length : Int))), (18, .d (I v)), (26, .d (.bool (decide (0 < (cut j)))))], [(3, .var 58 (cv58 p)), (2, .var 99 [.d (.fn 108)]), (1, .var 92 (c5 cut))], 4, Fr.emp, [], 0⟩ (by kernel_rfl) ?_
   refine RW.nil ?_
   refine hQ_12 _ ?_
   refine AW.cond rfl (fun hb_14 => ?_) (fun hb_14 => ?_)
   ·have h := ifT hb_14 h
    refine AW.drw fokW ?_
    refine RunC.auX 5 ⟨[(4, .ptr 1 0), (5, .ptr 2 0), (8, .d (I v)), (16, .d (.sl 4 (List.map e58 b_B.Hanks))), (17, .d (I (b_B.Hanks.length : Int))), (18, .d (I v)), (27, .d (I n)), (29, .d (.fn 108)), (31, .agg [.d (I p.Weight.Low), .d (I p.Weight.High)])], [(3, .var 58 (cv58 p)), (2, .var 99 [.d (.fn 108)]), (1, .var 92 (c5 cut))], 4, Fr.emp, [], 0⟩ (by kernel_rfl) ?_
    obtain ⟨r0_1, hx_16, h⟩ := bsome h
    refine r_callvZ (zr := []) trivial rfl (.fn _) (by kernel_rfl) rfl (k108 p.Weight _ hx_16) trivial ⟨.refl _, trivial⟩ rfl rfl rfl rfl ?_
    refine RunC.auX 1 ⟨[(4, .ptr 1 0), (5, .ptr 2 0), (16, .d (.sl 4 (List.map e58 b_B.Hanks))), (17, .d (I (b_B.Hanks.length : Int))), (18, .d (I v)), (27, .d (I n)), (32, .d (I r0_1)), (33, .d (I v))], [(3, .var 58 (cv58 p)), (2, .var 99 [.d (.fn 108)]), (1, .var 92 (c5 cut))], 4, Fr.emp, [], 0⟩ (by kernel_rfl) ?_
    obtain ⟨j1, hv_17, h⟩ := bsome h
    refine r_iaV trivial rfl rfl rfl (ixN_ok hv_17).1 (ixN_ok hv_17).2.1 ?_
    refine r_loadV trivial rfl rfl (u := .d (I (cut j1))) (agt (f := fun k => .d (I (cut k))) hv_17) ?_
    refine RunC.auX 3 ⟨[(4, .ptr 1 0), (5, .ptr 2 0), (7, .d (I (wr (n + (wr (r0_1 - (cut j1))))))), (16, .d (.sl 4 (List.map e58 b_B.Hanks))), (17, .d (I (b_B.Hanks.length : Int))), (18, .d (I v))], [(3, .var 58 (cv58 p)), (2, .var 99 [.d (.fn 108)]), (1, .var 92 (c5 cut))], 4, Fr.emp, [], 0⟩ (by kernel_rfl) ?_
    refine RunC.fin ⟨[(4, .ptr 1 0), (5, .ptr 2 0), (7, .d (I (wr (n + (wr (r0_1 - (cut j1))))))), (16, .d (.sl 4 (List.map e58 b_B.Hanks))), (17, .d (I (b_B.Hanks.length : Int))), (18, .d (I v))], [(2, .var 99 [.d (.fn 108)]), (1, .var 92 (c5 cut))], 4, Fr.emp, [], 0⟩ (by kernel_rfl) (by kernel_rfl) ?_
    refine hK_10 _ ?_
    refine AW.ra fokW [] ⟨[(4, .ptr 1 0), (5, .ptr 2 0), (7, .d (I (wr (n + (wr (r0_1 - (cut j1))))))), (16, .d (.sl 4 (List.map e58 b_B.Hanks))), (17, .d (I (b_B.Hanks.length : Int))), (18, .d (I (wr (v + 1))))], [(2, .var 99 [.d (.fn 108)]), (1, .var 92 (c5 cut))], 4, Fr.emp, [], 0⟩ (by kernel_rfl) ?_
    obtain rfl := Option.some.inj h
    have ew : wr (v + 1) = v + 1 := inext (N := (b_B.Hanks.length : Int)) (by omega) (by omega) (by omega)
    rw [ew]
    exact hK_7 _ (Can.kp (by kernel_rfl))
   ·have h := ifF hb_14 h
    refine AW.skip ?_
    refine hK_10 _ ?_
    refine AW.ra fokW [] ⟨[(4, .ptr 1 0), (5, .ptr 2 0), (7, .d (I n)), (16, .d (.sl 4 (List.map e58 b_B.Hanks))), (17, .d (I (b_B.Hanks.length : Int))), (18, .d (I (wr (v + 1))))], [(2, .var 99 [.d (.fn 108)]), (1, .var 92 (c5 cut))], 4, Fr.emp, [], 0⟩ (by kernel_rfl) ?_
    obtain rfl := Option.some.inj h
    have ew : wr (v + 1) = v + 1 := inext (N := (b_B.Hanks.length : Int)) (by omega) (by omega) (by omega)
    rw [ew]
    exact hK_7 _ (Can.kp (by kernel_rfl))
  ·subst hout
   refine AW.sa fokW [] ⟨[(4, .ptr 1 0), (5, .ptr 2 0), (7, .d (I n)), (16, .d (.sl 4 (List.map e58 b_B.Hanks))), (17, .d (I (b_B.Hanks.length : Int))), (18, .d (I v)), (19, .d (.bool (decide (v < (b_B.Hanks.length : Int)))))], [(2, .var 99 [.d (.fn 108)]), (1, .var 92 (c5 cut))], 3, Fr.emp, [], 0⟩ (by kernel_rfl) ?_
   refine AW.seqK (fun K_18 hK_18 => ?_)
   refine AW.cond rfl (fun hb_19 => False.elim (by have := of_decide_eq_true hb_19; omega)) (fun hb_19 => ?_)
   refine AW.exit ?_
   refine hK_5 _ ?_
   refine AW.sa fokW [] ⟨[(6, .d (I n))], [], 3, Fr.emp, [], 0⟩ (by kernel_rfl) ?_
   obtain rfl := Option.some.inj h
   exact AW.ret (hR_0 _ (retX (.cons (.tmp rfl) .nil) (.refl _) rfl (by kernel_rfl) (by kernel_rfl)))
def g23 (x : HairBook) (plan : (List Int)) : Option (Span × Int) := (g55c x plan).bind fun r_15 => match r_15 with | .next (r0_B4, r1_1) => (must (decide (r1_1 ≠ 0))).bind fun _ => some ((Span.mk 0 0), r1_1) | .brk (r0_B5, mf2, r1_2) => bif (decide (r1_2 ≠ 0)) then (some ((Span.mk 0 0), r1_2)) else ((g71 r0_B5 mf2 plan).bind fun r0_3 => (g76).bind fun _ => (g75 r0_B5 mf2 r0_3).bind fun r0_3_1 => (g77).bind fun _ => (g75a r0_B5 mf2 r0_3).bind fun r0_3_2 => some ((Span.mk r0_3_1 r0_3_2), 0))
theorem k23 (x : HairBook) (plan : (List Int)) (r : Span × Int) (h : g23 x plan = some r) : SCall Tryd.prog Gs 23 [.agg (cv25 x), .d (.sl 1 (List.map e3 plan))] [] 0 Fr.emp (match r with | (r0_2, r1_4) => .tup [.agg [.d (I r0_2.Low), .d (I r0_2.High)], .d (I r1_4)]) [] 0 Fr.emp := by
 unfold g23 at h
 refine SCall.mkK Tryd.func23 c23 rfl rfl (by kernel_rfl) (fun Q_0 hR_0 hN_0 => ?_)
 refine AW.sa fokW [] ⟨[(2, .ptr 0 0), (3, .ptr 1 0), (4, .ptr 2 0)], [(2, .var 35 [.d (I 0), .d (I 0)]), (1, .var 26 [.d (.sl 1 (List.map e3 plan))]), (0, .var 25 (cv25 x))], 3, Fr.emp, [], 0⟩ (by kernel_rfl) ?_
 refine AW.srwK (fun Q_1 hQ_1 => ?_)
 refine RW.au fokW 2 [] ⟨[(3, .ptr 1 0), (4, .ptr 2 0), (10, .agg (cv25 x)), (11, .clo 74 [] [.ptr 1 0])], [(2, .var 35 [.d (I 0), .d (I 0)]), (1, .var 26 [.d (.sl 1 (List.map e3 plan))])], 3, Fr.emp, [], 0⟩ (by kernel_rfl) ?_
 obtain ⟨r_15, hx_2, h⟩ := bsome h
 rcases r_15 with (⟨r0_B4, r1_1⟩ | (⟨r0_B5, mf2, r1_2⟩))
 ·refine RW.one fokW (r_callS (zr := []) [1] trivial rfl (k55c x plan _ hx_2) ⟨rfl, trivial⟩ rfl rfl ⟨.refl _, .refl _, trivial⟩ rfl rfl rfl (r_end ?_))
  obtain ⟨_, hv_3, h⟩ := bsome h
  have hf_4 := must_ok hv_3
  refine RW.au fokW 6 [] ⟨[(3, .ptr 1 0), (4, .ptr 2 0), (6, .ptr 3 0), (7, .d (I r1_1))], [(3, .var 78 (catV (cv25 r0_B4) [.d (.nilMap)])), (1, .var 26 [.d (.sl 1 (List.map e3 plan))]), (2, .var 35 [.d (I 0), .d (I 0)])], 4, Fr.emp, [], 0⟩ (by kernel_rfl) ?_
  refine RW.nil ?_
  refine hQ_1 _ ?_
  refine AW.seqK (fun K_5 hK_5 => ?_)
  refine AW.sa fokW [] ⟨[(3, .ptr 1 0), (4, .ptr 2 0), (6, .ptr 3 0), (7, .d (I r1_1)), (16, .d (.bool (decide (r1_1 ≠ 0))))], [(3, .var 78 (catV (cv25 r0_B4) [.d (.nilMap)])), (1, .var 26 [.d (.sl 1 (List.map e3 plan))]), (2, .var 35 [.d (I 0), .d (I 0)])], 4, Fr.emp, [], 0⟩ (by kernel_rfl) ?_
  refine AW.cond rfl (fun hb_6 => ?_) (fun hb_6 => False.elim (by rw [hf_4] at hb_6; cases hb_6))
  refine AW.sa fokW [] ⟨[(4, .ptr 2 0), (5, .d (I r1_1))], [(2, .var 35 [.d (I 0), .d (I 0)])], 4, Fr.emp, [], 0⟩ (by kernel_rfl) ?_
  obtain rfl := Option.some.inj h
  exact AW.ret (hR_0 _ (retX (.cons (.agg rfl rfl (Nat.le_of_ble_eq_true rfl)) (.cons (.tmp rfl) .nil)) (.refl _) rfl (by kernel_rfl) (by kernel_rfl)))
 ·refine RW.one fokW (r_callS (zr := []) [1] trivial rfl (k55c x plan _ hx_2) ⟨rfl, trivial⟩ rfl rfl ⟨.refl _, .refl _, trivial⟩ rfl rfl rfl (r_end ?_))
  refine RW.au fokW 6 [] ⟨[(3, .ptr 1 0), (4, .ptr 2 0), (6, .ptr 3 0), (7, .d (I r1_2))], [(3, .var 78 (hbm r0_B5 mf2)), (1, .var 26 [.d (.sl 1 (List.map e3 plan))]), (2, .var 35 [.d (I 0), .d (I 0)])], 4, Fr.emp, [], 0⟩ (by kernel_rfl) ?_
  refine RW.nil ?_
  refine hQ_1 _ ?_
  refine AW.seqK (fun K_7 hK_7 => ?_)
  refine AW.sa fokW [] ⟨[(3, .ptr 1 0), (4, .ptr 2 0), (6, .ptr 3 0), (7, .d (I r1_2)), (16, .d (.bool (decide (r1_2 ≠ 0))))], [(3, .var 78 (hbm r0_B5 mf2)), (1, .var 26 [.d (.sl 1 (List.map e3 plan))]), (2, .var 35 [.d (I 0), .d (I 0)])], 4, Fr.emp, [], 0⟩ (by kernel_rfl) ?_
  refine AW.cond rfl (fun hb_8 => ?_) (fun hb_8 => ?_)
  ·have h := ifT hb_8 h
   refine AW.sa fokW [] ⟨[(4, .ptr 2 0), (5, .d (I r1_2))], [(2, .var 35 [.d (I 0), .d (I 0)])], 4, Fr.emp, [], 0⟩ (by kernel_rfl) ?_
   obtain rfl := Option.some.inj h
   exact AW.ret (hR_0 _ (retX (.cons (.agg rfl rfl (Nat.le_of_ble_eq_true rfl)) (.cons (.tmp rfl) .nil)) (.refl _) rfl (by kernel_rfl) (by kernel_rfl)))
  ·have h := ifF hb_8 h
   refine AW.skip ?_
   refine hK_7 _ ?_
   refine AW.srwK (fun Q_9 hQ_9 => ?_)
   refine RW.au fokW 2 [] ⟨[(4, .ptr 2 0), (6, .ptr 3 0), (19, .agg (hbm r0_B5 mf2)), (20, .d (.sl 1 (List.map e3 plan)))], [(3, .var 78 (hbm r0_B5 mf2)), (2, .var 35 [.d (I 0), .d (I 0)])], 4, Fr.emp, [], 0⟩ (by kernel_rfl) ?_
   obtain ⟨r0_3, hx_10, h⟩ := bsome h
   refine RW.one fokW (r_call trivial rfl (k71 r0_B5 mf2 plan _ hx_10) rfl rfl (r_end ?_))
   refine RW.au fokW 2 [] ⟨[(4, .ptr 2 0), (6, .ptr 3 0), (8, .ptr 4 0)], [(4, .var 92 (c5 r0_3)), (3, .var 78 (hbm r0_B5 mf2)), (2, .var 35 [.d (I 0), .d (I 0)])], 5, Fr.emp, [], 0⟩ (by kernel_rfl) ?_
   refine RW.nil ?_
   refine hQ_9 _ ?_
   refine AW.sdrwK fokW (fun Q_11 hQ_11 => ?_)
   refine RunC.auX 2 ⟨[(4, .ptr 2 0), (6, .ptr 3 0), (8, .ptr 4 0), (22, .agg (hbm r0_B5 mf2)), (23, .agg (c5 r0_3))], [(4, .var 92 (c5 r0_3)), (3, .var 78 (hbm r0_B5 mf2)), (2, .var 35 [.d (I 0), .d (I 0)])], 5, Fr.emp, [], 0⟩ (by kernel_rfl) ?_
   obtain ⟨⟨⟩, hx_12, h⟩ := bsome h
   refine r_call trivial rfl (k76 _ hx_12) rfl rfl ?_
   obtain ⟨r0_3_1, hx_13, h⟩ := bsome h
   refine r_call trivial rfl (k75 r0_B5 mf2 r0_3 _ hx_13) rfl rfl ?_
   refine RunC.auX 2 ⟨[(4, .ptr 2 0), (25, .d (I r0_3_1)), (26, .agg (hbm r0_B5 mf2)), (27, .agg (c5 r0_3))], [(4, .var 92 (c5 r0_3)), (3, .var 78 (hbm r0_B5 mf2)), (2, .var 35 [.d (I 0), .d (I 0)])], 5, Fr.emp, [], 0⟩ (by kernel_rfl) ?_
   obtain ⟨⟨⟩, hx_14, h⟩ := bsome h
   refine r_call trivial rfl (k77 _ hx_14) rfl rfl ?_
   obtain ⟨r0_3_2, hx_15, h⟩ := bsome h
   refine r_call trivial rfl (k75a r0_B5 mf2 r0_3 _ hx_15) rfl rfl ?_
   refine RunC.auX 3 ⟨[(4, .ptr 2 0), (5, .d (I 0))], [(2, .var 35 [.d (I r0_3_1), .d (I r0_3_2)]), (4, .var 92 (c5 r0_3)), (3, .var 78 (hbm r0_B5 mf2))], 5, Fr.emp, [], 0⟩ (by kernel_rfl) ?_
   refine RunC.fin ⟨[(4, .ptr 2 0), (5, .d (I 0))], [(2, .var 35 [.d (I r0_3_1), .d (I r0_3_2)])], 5, Fr.emp, [], 0⟩ (by kernel_rfl) (by kernel_rfl) ?_
   refine hQ_11 _ ?_
   obtain rfl := Option.some.inj h
   exact AW.ret (hR_0 _ (retX (.cons (.agg rfl rfl (Nat.le_of_ble_eq_true rfl)) (.cons (.tmp rfl) .nil)) (.refl _) rfl (by kernel_rfl) (by kernel_rfl)))
def g40 (n : Int) : Option Span := some (Span.mk n n)
theorem k40 (n : Int) (r : Span) (h : g40 n = some r) : SCall Tryd.prog Gs 40 [.d (I n)] [] 0 Fr.emp (.agg [.d (I r.Low), .d (I r.High)]) [] 0 Fr.emp := by
 unfold g40 at h
 refine SCall.mkK Tryd.func40 c40 rfl rfl (by kernel_rfl) (fun Q_0 hR_0 hN_0 => ?_)
 refine AW.sa fokW [] ⟨[(0, .d (I n)), (2, .ptr 0 0)], [(0, .var 35 [.d (I 0), .d (I 0)])], 1, Fr.emp, [], 0⟩ (by kernel_rfl) ?_
 refine AW.sa fokW [] ⟨[(2, .ptr 0 0)], [(0, .var 35 [.d (I n), .d (I n)])], 1, Fr.emp, [], 0⟩ (by kernel_rfl) ?_
 obtain rfl := Option.some.inj h
 exact AW.ret (hR_0 _ (retX (.cons (.agg rfl rfl (Nat.le_of_ble_eq_true rfl)) .nil) (.refl _) rfl (by kernel_rfl) (by kernel_rfl)))
def g98 (weight : Span) (shade : Span) : Option HairHank := some (HairHank.mk weight shade)
theorem k98 (weight : Span) (shade : Span) (r : HairHank) (h : g98 weight shade = some r) : SCall Tryd.prog Gs 98 [.agg [.d (I weight.Low), .d (I weight.High)], .agg [.d (I shade.Low), .d (I shade.High)]] [] 0 Fr.emp (.agg [.d (I r.Weight.Low), .d (I r.Weight.High), .d (I r.Shade.Low), .d (I r.Shade.High)]) [] 0 Fr.emp := by
 unfold g98 at h
 refine SCall.mkK Tryd.func98 c98 rfl rfl (by kernel_rfl) (fun Q_0 hR_0 hN_0 => ?_)
 refine AW.sa fokW [] ⟨[(2, .ptr 0 0), (3, .ptr 1 0), (4, .ptr 2 0)], [(2, .var 58 [.d (I 0), .d (I 0), .d (I 0), .d (I 0)]), (1, .var 35 [.d (I shade.Low), .d (I shade.High)]), (0, .var 35 [.d (I weight.Low), .d (I weight.High)])], 3, Fr.emp, [], 0⟩ (by kernel_rfl) ?_
 refine AW.sa fokW [] ⟨[(4, .ptr 2 0)], [(2, .var 58 [.d (I weight.Low), .d (I weight.High), .d (I shade.Low), .d (I shade.High)])], 3, Fr.emp, [], 0⟩ (by kernel_rfl) ?_
 obtain rfl := Option.some.inj h
 exact AW.ret (hR_0 _ (retX (.cons (.agg rfl rfl (Nat.le_of_ble_eq_true rfl)) .nil) (.refl _) rfl (by kernel_rfl) (by kernel_rfl)))
def g99 (mane : Int) (tail : Int) (shade : Int) : Option HairHorse := some (HairHorse.mk mane tail shade)
theorem k99 (mane : Int) (tail : Int) (shade : Int) (r : HairHorse) (h : g99 mane tail shade = some r) : SCall Tryd.prog Gs 99 [.d (I mane), .d (I tail), .d (I shade)] [] 0 Fr.emp (.agg [.d (I r.Mane), .d (I r.Tail), .d (I r.Shade)]) [] 0 Fr.emp := by
 unfold g99 at h
 refine SCall.mkK Tryd.func99 c99 rfl rfl (by kernel_rfl) (fun Q_0 hR_0 hN_0 => ?_)
 refine AW.sa fokW [] ⟨[(0, .d (I mane)), (1, .d (I tail)), (2, .d (I shade)), (6, .ptr 0 0)], [(0, .var 69 [.d (I 0), .d (I 0), .d (I 0)])], 1, Fr.emp, [], 0⟩ (by kernel_rfl) ?_
 refine AW.sa fokW [] ⟨[(6, .ptr 0 0)], [(0, .var 69 [.d (I mane), .d (I tail), .d (I shade)])], 1, Fr.emp, [], 0⟩ (by kernel_rfl) ?_
 obtain rfl := Option.some.inj h
 exact AW.ret (hR_0 _ (retX (.cons (.agg rfl rfl (Nat.le_of_ble_eq_true rfl)) .nil) (.refl _) rfl (by kernel_rfl) (by kernel_rfl)))
def g53  : Option ((List HairHank) × (List HairHorse) × Int × Int × Int) := (g44 10 11).bind fun r0 => (g44 4 5).bind fun r0_1 => (g98 r0 r0_1).bind fun r0_2 => (g44 8 9).bind fun r0_3 => (g40 6).bind fun r0_4 => (g98 r0_3 r0_4).bind fun r0_5 => (g44 20 22).bind fun r0_6 => (g40 3).bind fun r0_7 => (g98 r0_6 r0_7).bind fun r0_8 => (g99 6 4 6).bind fun r0_9 => (g99 5 3 7).bind fun r0_10 => some ([r0_2, r0_5, r0_8], [r0_9, r0_10], 2, 1, 1)
theorem k53  (r : (List HairHank) × (List HairHorse) × Int × Int × Int) (h : g53 = some r) : SCall Tryd.prog Gs 53 [] [] 0 Fr.emp (match r with | (r0_Hanks, r0_Horses, r0_Dark, r0_Near, r0_Match) => .agg [.own 1 (List.map e58 r0_Hanks).length, .own 2 (List.map e69 r0_Horses).length, .d (I r0_Dark), .d (I r0_Near), .d (I r0_Match)]) (match r with | (r0_Hanks, r0_Horses, r0_Dark, r0_Near, r0_Match) => [(1, .row 58 4 (List.map e58 r0_Hanks)), (2, .row 69 3 (List.map e69 r0_Horses))]) 3 Fr.emp := by
 unfold g53 at h
 refine SCall.mkK Tryd.func53 c53 rfl rfl (by kernel_rfl) (fun Q_0 hR_0 hN_0 => ?_)
 refine AW.sa fokW [] ⟨[(0, .ptr 0 0)], [(0, .var 25 [.d (.nilSl), .d (.nilSl), .d (I 0), .d (I 0), .d (I 0)])], 1, Fr.emp, [], 0⟩ (by kernel_rfl) ?_
 refine AW.srwK (fun Q_1 hQ_1 => ?_)
 obtain ⟨r0, hx_2, h⟩ := bsome h
 refine RW.one fokW (r_call trivial rfl (k44 10 11 _ hx_2) rfl rfl (r_end ?_))
 obtain ⟨r0_1, hx_3, h⟩ := bsome h
 refine RW.one fokW (r_call trivial rfl (k44 4 5 _ hx_3) rfl rfl (r_end ?_))
 obtain ⟨r0_2, hx_4, h⟩ := bsome h
 refine RW.one fokW (r_call trivial rfl (k98 r0 r0_1 _ hx_4) rfl rfl (r_end ?_))
 obtain ⟨r0_3, hx_5, h⟩ := bsome h
 refine RW.one fokW (r_call trivial rfl (k44 8 9 _ hx_5) rfl rfl (r_end ?_))
 obtain ⟨r0_4, hx_6, h⟩ := bsome h
 refine RW.one fokW (r_call trivial rfl (k40 6 _ hx_6) rfl rfl (r_end ?_))
 obtain ⟨r0_5, hx_7, h⟩ := bsome h
 refine RW.one fokW (r_call trivial rfl (k98 r0_3 r0_4 _ hx_7) rfl rfl (r_end ?_))
 obtain ⟨r0_6, hx_8, h⟩ := bsome h
 refine RW.one fokW (r_call trivial rfl (k44 20 22 _ hx_8) rfl rfl (r_end ?_))
 obtain ⟨r0_7, hx_9, h⟩ := bsome h
 refine RW.one fokW (r_call trivial rfl (k40 3 _ hx_9) rfl rfl (r_end ?_))
 obtain ⟨r0_8, hx_10, h⟩ := bsome h
 refine RW.one fokW (r_call trivial rfl (k98 r0_6 r0_7 _ hx_10) rfl rfl (r_end ?_))
 refine RW.au fokW 1 [] ⟨[(0, .ptr 0 0), (10, .own 1 (List.map e58 [r0_2, r0_5, r0_8]).length)], [(1, .row 58 4 (List.map e58 [r0_2, r0_5, r0_8])), (0, .var 25 [.d (.nilSl), .d (.nilSl), .d (I 0), .d (I 0), .d (I 0)])], 2, Fr.emp, [], 0⟩ (by kernel_rfl) ?_
 obtain ⟨r0_9, hx_11, h⟩ := bsome h
 refine RW.one fokW (r_call trivial rfl (k99 6 4 6 _ hx_11) rfl rfl (r_end ?_))
 obtain ⟨r0_10, hx_12, h⟩ := bsome h
 refine RW.one fokW (r_call trivial rfl (k99 5 3 7 _ hx_12) rfl rfl (r_end ?_))
 refine RW.au fokW 3 [] ⟨[(0, .ptr 0 0)], [(0, .var 25 [.own 1 (List.map e58 [r0_2, r0_5, r0_8]).length, .own 2 (List.map e69 [r0_9, r0_10]).length, .d (I 2), .d (I 1), .d (I 1)]), (2, .row 69 3 (List.map e69 [r0_9, r0_10])), (1, .row 58 4 (List.map e58 [r0_2, r0_5, r0_8]))], 3, Fr.emp, [], 0⟩ (by kernel_rfl) ?_
 refine RW.nil ?_
 refine hQ_1 _ ?_
 obtain rfl := Option.some.inj h
 exact AW.ret (hR_0 _ (retX (.cons (.agg rfl rfl (Nat.le_of_ble_eq_true rfl)) .nil) (.refl _) rfl (by kernel_rfl) (by kernel_rfl)))
def g79  : Option HairBook := (g53).bind fun (r0_Hanks, r0_Horses, r0_Dark, r0_Near, r0_Match) => (g44 7 8).bind fun r0 => (ixL r0_Hanks 1).bind fun p => some (HairBook.mk (setL r0_Hanks 1 (HairHank.mk r0 p.Shade)) r0_Horses r0_Dark r0_Near r0_Match)
theorem k79  (r : HairBook) (h : g79 = some r) : SCall Tryd.prog Gs 79 [] [] 0 Fr.emp (.agg (cv25 r)) [] 0 Fr.emp := by
 unfold g79 at h
 refine SCall.mkK Tryd.func79 c79 rfl rfl (by kernel_rfl) (fun Q_0 hR_0 hN_0 => ?_)
 refine AW.sa fokW [] ⟨[(0, .ptr 0 0)], [(0, .var 25 [.d (.nilSl), .d (.nilSl), .d (I 0), .d (I 0), .d (I 0)])], 1, Fr.emp, [], 0⟩ (by kernel_rfl) ?_
 refine AW.srwK (fun Q_1 hQ_1 => ?_)
 obtain ⟨⟨r0_Hanks, r0_Horses, r0_Dark, r0_Near, r0_Match⟩, hx_2, h⟩ := bsome h
 refine RW.one fokW (r_callS (zr := []) [] trivial rfl (k53 _ hx_2) trivial rfl rfl trivial rfl rfl rfl (r_end ?_))
 refine RW.au fokW 2 [] ⟨[(0, .ptr 0 0), (1, .ptr 4 0)], [(4, .var 25 [.own 2 (List.map e58 r0_Hanks).length, .own 3 (List.map e69 r0_Horses).length, .d (I r0_Dark), .d (I r0_Near), .d (I r0_Match)]), (2, .row 58 4 (List.map e58 r0_Hanks)), (3, .row 69 3 (List.map e69 r0_Horses)), (0, .var 25 [.d (.nilSl), .d (.nilSl), .d (I 0), .d (I 0), .d (I 0)])], 5, Fr.emp, [], 0⟩ (by kernel_rfl) ?_
 refine RW.nil ?_
 refine hQ_1 _ ?_
 refine AW.sdrwK fokW (fun Q_3 hQ_3 => ?_)
 refine RunC.auX 2 ⟨[(0, .ptr 0 0), (1, .ptr 4 0), (4, .own 2 (List.map e58 r0_Hanks).length)], [(4, .var 25 [.own 2 (List.map e58 r0_Hanks).length, .own 3 (List.map e69 r0_Horses).length, .d (I r0_Dark), .d (I r0_Near), .d (I r0_Match)]), (2, .row 58 4 (List.map e58 r0_Hanks)), (3, .row 69 3 (List.map e69 r0_Horses)), (0, .var 25 [.d (.nilSl), .d (.nilSl), .d (I 0), .d (I 0), .d (I 0)])], 5, Fr.emp, [], 0⟩ (by kernel_rfl) ?_
 obtain ⟨r0, hx_4, h⟩ := bsome h
 refine r_call trivial rfl (k44 7 8 _ hx_4) rfl rfl ?_
 obtain ⟨p, hv_5, h⟩ := bsome h
 refine r_iaO trivial rfl rfl rfl (ixL_ok hv_5).1 (ix_lt (ixL_ok hv_5).2) rfl ?_
 refine RunC.auX 1 ⟨[(0, .ptr 0 0), (1, .ptr 4 0), (5, .agg [.d (I r0.Low), .d (I r0.High)]), (7, .eptr 2 (List.map e58 r0_Hanks).length (1 : Int).toNat 0)], [(4, .var 25 [.own 2 (List.map e58 r0_Hanks).length, .own 3 (List.map e69 r0_Horses).length, .d (I r0_Dark), .d (I r0_Near), .d (I r0_Match)]), (2, .row 58 4 (List.map e58 r0_Hanks)), (3, .row 69 3 (List.map e69 r0_Horses)), (0, .var 25 [.d (.nilSl), .d (.nilSl), .d (I 0), .d (I 0), .d (I 0)])], 5, Fr.emp, [], 0⟩ (by kernel_rfl) ?_
 refine r_stE trivial rfl rfl rfl rfl (mapget (f := e58) (ixL_ok hv_5).2) rfl rfl rfl (Nat.le_of_ble_eq_true rfl) (stz (f := e58) (x := (HairHank.mk r0 p.Shade)) rfl) ?_
 rw [lenset (f := e58) (xs := r0_Hanks) (i := 1) (x := (HairHank.mk r0 p.Shade))]
 refine RunC.fin ⟨[(0, .ptr 0 0), (1, .ptr 4 0)], [(2, .row 58 4 (List.map e58 (setL r0_Hanks 1 (HairHank.mk r0 p.Shade)))), (4, .var 25 [.own 2 (List.map e58 (setL r0_Hanks 1 (HairHank.mk r0 p.Shade))).length, .own 3 (List.map e69 r0_Horses).length, .d (I r0_Dark), .d (I r0_Near), .d (I r0_Match)]), (3, .row 69 3 (List.map e69 r0_Horses)), (0, .var 25 [.d (.nilSl), .d (.nilSl), .d (I 0), .d (I 0), .d (I 0)])], 5, Fr.emp, [], 0⟩ (by kernel_rfl) (by kernel_rfl) ?_
 refine hQ_3 _ ?_
 refine AW.sa fokW [] ⟨[(0, .ptr 0 0)], [(0, .var 25 [.own 2 (List.map e58 (setL r0_Hanks 1 (HairHank.mk r0 p.Shade))).length, .own 3 (List.map e69 r0_Horses).length, .d (I r0_Dark), .d (I r0_Near), .d (I r0_Match)]), (2, .row 58 4 (List.map e58 (setL r0_Hanks 1 (HairHank.mk r0 p.Shade)))), (3, .row 69 3 (List.map e69 r0_Horses))], 5, Fr.emp, [], 0⟩ (by kernel_rfl) ?_
 obtain rfl := Option.some.inj h
 exact AW.ret (hR_0 _ (retX (.cons (.agg rfl rfl (Nat.le_of_ble_eq_true rfl)) .nil) (Frz.agg_of ⟨(.own rfl rfl), (.own rfl rfl), .refl _, .refl _, .refl _, trivial⟩) rfl (by kernel_rfl) (by kernel_rfl)))
def g88 (b_B : HairBook) (mf : List (Hair_dye × Span)) (m0_B : HairBook) (mf_1 : List (Hair_dye × Span)) : Option (HairBook × (List (Hair_dye × Span))) := some (b_B, mf)
theorem k88 (b_B : HairBook) (mf : List (Hair_dye × Span)) (m0_B : HairBook) (mf_1 : List (Hair_dye × Span)) (r : HairBook × (List (Hair_dye × Span))) (h : g88 b_B mf m0_B mf_1 = some r) : SCall Tryd.prog Gs 88 [.agg (hbm b_B mf), .agg [.d (.fn 107)], .clo 89 [.agg (hbm m0_B mf_1)] []] [] 0 Fr.emp (match r with | (o0_B, mf1) => .clo 111 [] [.ptr 0 0, .ptr 1 0, .ptr 2 0]) (match r with | (o0_B, mf1) => [(0, .var 78 (hbm o0_B mf1)), (1, .var 99 [.d (.fn 107)]), (2, .var 65 [.clo 89 [.agg (hbm m0_B mf_1)] []])]) 3 Fr.emp := by
 unfold g88 at h
 refine SCall.mkK Tryd.func88 c88 rfl rfl (by kernel_rfl) (fun Q_0 hR_0 hN_0 => ?_)
 refine AW.sa fokW [] ⟨[(3, .ptr 0 0), (4, .ptr 1 0), (5, .ptr 2 0)], [(2, .var 65 [.clo 89 [.agg (hbm m0_B mf_1)] []]), (1, .var 99 [.d (.fn 107)]), (0, .var 78 (hbm b_B mf))], 3, Fr.emp, [], 0⟩ (by kernel_rfl) ?_
 refine AW.sa fokW [] ⟨[(6, .clo 111 [] [.ptr 0 0, .ptr 1 0, .ptr 2 0])], [(2, .var 65 [.clo 89 [.agg (hbm m0_B mf_1)] []]), (1, .var 99 [.d (.fn 107)]), (0, .var 78 (hbm b_B mf))], 3, Fr.emp, [], 0⟩ (by kernel_rfl) ?_
 obtain rfl := Option.some.inj h
 exact AW.ret (hR_0 _ (retX (.cons (.tmp rfl) .nil) (.refl _) rfl (by kernel_rfl) (by kernel_rfl)))
end Go.Proofs.Th
