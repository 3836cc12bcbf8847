/- Told functions, and that the program does so, part 2. Conditions: none. -/
import Derived.Test.YtonjadhpjkbhnaaDoorTda
set_option linter.unusedVariables false
set_option linter.unusedSimpArgs false
namespace Go.Proofs.Th
open Go Go.Abs Go.Proofs
def g55b (x : HairBook) (o0 : (List Int)) (o1 : Int) : Option (Ctl (HairBook × Int) (HairBook × (List (Hair_dye × Span)) × Int)) := (g17 x).bind fun r0_9 => bif (decide (r0_9 ≠ 0)) then (some (.next ((HairBook.mk [] [] 0 0 0), r0_9))) else ((g80 x).bind fun (r0_B, mf) => (g70 r0_B mf o0 o1).bind fun r0 => bif (!r0) then (some (.brk (r0_B, mf, 61))) else (some (.brk (r0_B, mf, 0))))
theorem k55b (x : HairBook) (o0 : (List Int)) (o1 : Int) (r : Ctl (HairBook × Int) (HairBook × (List (Hair_dye × Span)) × Int)) (h : g55b x o0 o1 = some r) : SCall Tryd.prog Gs 55 [.agg (cv25 x), .clo 70 [] [.ptr 0 0, .ptr 1 0]] [(0, .var 26 [.d (.sl 1 (List.map e3 o0))]), (1, .var 3 [.d (I o1)])] 2 Fr.emp (match r with | .next (r0_B4, r1_1) => .tup [.agg [.d (.sl 4 (List.map e58 r0_B4.Hanks)), .d (.sl 3 (List.map e69 r0_B4.Horses)), .d (I r0_B4.Dark), .d (I r0_B4.Near), .d (I r0_B4.Match), .d (.nilMap)], .d (I r1_1)] | .brk (r0_B5, mf2, r1_2) => .tup [.agg (hbm r0_B5 mf2), .d (I r1_2)]) (match r with | .next (r0_B4, r1_1) => [(0, .var 26 [.d (.sl 1 (List.map e3 o0))]), (1, .var 3 [.d (I o1)])] | .brk (r0_B5, mf2, r1_2) => [(0, .var 26 [.d (.sl 1 (List.map e3 o0))]), (1, .var 3 [.d (I o1)])]) 2 Fr.emp := by
 unfold g55b at h
 refine SCall.mkK Tryd.func55 c55 rfl (by rcases r with _ | _ <;> rfl) (by rcases r with _ | _ <;> kernel_rfl) (fun Q_0 hR_0 hN_0 => ?_)
 refine AW.sa fokW [] ⟨[(1, .clo 70 [] [.ptr 0 0, .ptr 1 0]), (2, .ptr 2 0), (4, .ptr 3 0)], [(3, .var 78 [.d (.nilSl), .d (.nilSl), .d (I 0), .d (I 0), .d (I 0), .d (.nilMap)]), (2, .var 25 (cv25 x)), (0, .var 26 [.d (.sl 1 (List.map e3 o0))]), (1, .var 3 [.d (I o1)])], 4, Fr.emp, [], 2⟩ (by kernel_rfl) ?_
 refine AW.seqK (fun K_1 hK_1 => ?_)
 refine AW.srwK (fun Q_2 hQ_2 => ?_)
 refine RW.au fokW 1 [] ⟨[(1, .clo 70 [] [.ptr 0 0, .ptr 1 0]), (2, .ptr 2 0), (4, .ptr 3 0), (8, .agg (cv25 x))], [(3, .var 78 [.d (.nilSl), .d (.nilSl), .d (I 0), .d (I 0), .d (I 0), .d (.nilMap)]), (2, .var 25 (cv25 x)), (0, .var 26 [.d (.sl 1 (List.map e3 o0))]), (1, .var 3 [.d (I o1)])], 4, Fr.emp, [], 2⟩ (by kernel_rfl) ?_
 obtain ⟨r0_9, hx_3, h⟩ := bsome h
 refine RW.one fokW (r_call trivial rfl (k17 x _ hx_3) rfl rfl (r_end ?_))
 refine RW.au fokW 1 [] ⟨[(1, .clo 70 [] [.ptr 0 0, .ptr 1 0]), (2, .ptr 2 0), (4, .ptr 3 0), (6, .d (I r0_9))], [(3, .var 78 [.d (.nilSl), .d (.nilSl), .d (I 0), .d (I 0), .d (I 0), .d (.nilMap)]), (2, .var 25 (cv25 x)), (0, .var 26 [.d (.sl 1 (List.map e3 o0))]), (1, .var 3 [.d (I o1)])], 4, Fr.emp, [], 2⟩ (by kernel_rfl) ?_
 refine RW.nil ?_
 refine hQ_2 _ ?_
 refine AW.sa fokW [] ⟨[(1, .clo 70 [] [.ptr 0 0, .ptr 1 0]), (2, .ptr 2 0), (4, .ptr 3 0), (6, .d (I r0_9)), (11, .d (.bool (decide (r0_9 ≠ 0))))], [(3, .var 78 [.d (.nilSl), .d (.nilSl), .d (I 0), .d (I 0), .d (I 0), .d (.nilMap)]), (2, .var 25 (cv25 x)), (0, .var 26 [.d (.sl 1 (List.map e3 o0))]), (1, .var 3 [.d (I o1)])], 4, Fr.emp, [], 2⟩ (by kernel_rfl) ?_
 refine AW.cond rfl (fun hb_4 => ?_) (fun hb_4 => ?_)
 ·have h := ifT hb_4 h
  refine AW.sa fokW [] ⟨[(4, .ptr 3 0), (5, .d (I r0_9))], [(3, .var 78 [.d (.nilSl), .d (.nilSl), .d (I 0), .d (I 0), .d (I 0), .d (.nilMap)]), (0, .var 26 [.d (.sl 1 (List.map e3 o0))]), (1, .var 3 [.d (I o1)])], 4, Fr.emp, [], 2⟩ (by kernel_rfl) ?_
  obtain rfl := Option.some.inj h
  exact AW.ret (hR_0 _ (retX (.cons (.agg rfl rfl (Nat.le_of_ble_eq_true rfl)) (.cons (.tmp rfl) .nil)) (Frz.tup_of ⟨Frz.agg_of ⟨(.nil 4), (.nil 3), .refl _, .refl _, .refl _, .refl _, trivial⟩, .refl _, trivial⟩) rfl (by kernel_rfl) (by kernel_rfl)))
 ·have h := ifF hb_4 h
  refine AW.skip ?_
  refine hK_1 _ ?_
  refine AW.srwK (fun Q_5 hQ_5 => ?_)
  refine RW.au fokW 1 [] ⟨[(1, .clo 70 [] [.ptr 0 0, .ptr 1 0]), (4, .ptr 3 0), (14, .agg (cv25 x))], [(3, .var 78 [.d (.nilSl), .d (.nilSl), .d (I 0), .d (I 0), .d (I 0), .d (.nilMap)]), (0, .var 26 [.d (.sl 1 (List.map e3 o0))]), (1, .var 3 [.d (I o1)])], 4, Fr.emp, [], 2⟩ (by kernel_rfl) ?_
  obtain ⟨⟨r0_B, mf⟩, hx_6, h⟩ := bsome h
  refine RW.one fokW (r_call trivial rfl (k80 x _ hx_6) rfl rfl (r_end ?_))
  refine RW.au fokW 2 [] ⟨[(1, .clo 70 [] [.ptr 0 0, .ptr 1 0]), (4, .ptr 3 0), (7, .ptr 4 0)], [(4, .var 78 (hbm r0_B mf)), (3, .var 78 [.d (.nilSl), .d (.nilSl), .d (I 0), .d (I 0), .d (I 0), .d (.nilMap)]), (0, .var 26 [.d (.sl 1 (List.map e3 o0))]), (1, .var 3 [.d (I o1)])], 5, Fr.emp, [], 2⟩ (by kernel_rfl) ?_
  refine RW.nil ?_
  refine hQ_5 _ ?_
  refine AW.seqK (fun K_7 hK_7 => ?_)
  refine AW.srwK (fun Q_8 hQ_8 => ?_)
  refine RW.au fokW 2 [] ⟨[(4, .ptr 3 0), (7, .ptr 4 0), (16, .clo 70 [] [.ptr 0 0, .ptr 1 0]), (17, .agg (hbm r0_B mf))], [(4, .var 78 (hbm r0_B mf)), (3, .var 78 [.d (.nilSl), .d (.nilSl), .d (I 0), .d (I 0), .d (I 0), .d (.nilMap)]), (0, .var 26 [.d (.sl 1 (List.map e3 o0))]), (1, .var 3 [.d (I o1)])], 5, Fr.emp, [], 2⟩ (by kernel_rfl) ?_
  obtain ⟨r0, hx_9, h⟩ := bsome h
  refine RW.one fokW (r_callvE (zr := []) [0, 1] trivial rfl (.clo _ _ _) (by kernel_rfl) rfl (k70 r0_B mf o0 o1 _ hx_9) ⟨rfl, rfl, trivial⟩ rfl rfl ⟨.refl _, .refl _, .refl _, trivial⟩ rfl rfl rfl (r_end ?_))
  refine RW.au fokW 1 [] ⟨[(4, .ptr 3 0), (7, .ptr 4 0), (19, .d (.bool (!r0)))], [(0, .var 26 [.d (.sl 1 (List.map e3 o0))]), (1, .var 3 [.d (I o1)]), (4, .var 78 (hbm r0_B mf)), (3, .var 78 [.d (.nilSl), .d (.nilSl), .d (I 0), .d (I 0), .d (I 0), .d (.nilMap)])], 5, Fr.emp, [], 2⟩ (by kernel_rfl) ?_
  refine RW.nil ?_
  refine hQ_8 _ ?_
  refine AW.cond rfl (fun hb_10 => ?_) (fun hb_10 => ?_)
  ·have h := ifT hb_10 h
   refine AW.sa fokW [] ⟨[(4, .ptr 3 0), (5, .d (I 61))], [(3, .var 78 (hbm r0_B mf)), (0, .var 26 [.d (.sl 1 (List.map e3 o0))]), (1, .var 3 [.d (I o1)])], 5, Fr.emp, [], 2⟩ (by kernel_rfl) ?_
   obtain rfl := Option.some.inj h
   exact AW.ret (hR_0 _ (retX (.cons (.agg rfl rfl (Nat.le_of_ble_eq_true rfl)) (.cons (.tmp rfl) .nil)) (.refl _) rfl (by kernel_rfl) (by kernel_rfl)))
  ·have h := ifF hb_10 h
   refine AW.skip ?_
   refine hK_7 _ ?_
   refine AW.sa fokW [] ⟨[(4, .ptr 3 0), (5, .d (I 0))], [(3, .var 78 (hbm r0_B mf)), (0, .var 26 [.d (.sl 1 (List.map e3 o0))]), (1, .var 3 [.d (I o1)])], 5, Fr.emp, [], 2⟩ (by kernel_rfl) ?_
   obtain rfl := Option.some.inj h
   exact AW.ret (hR_0 _ (retX (.cons (.agg rfl rfl (Nat.le_of_ble_eq_true rfl)) (.cons (.tmp rfl) .nil)) (.refl _) rfl (by kernel_rfl) (by kernel_rfl)))
def g21 (x : HairBook) (plan : (List Int)) (hank : Int) : Option (Span × Int) := (g55b x plan hank).bind fun r_12 => match r_12 with | .next (r0_B4, r1_1) => (must (decide (r1_1 ≠ 0))).bind fun _ => some ((Span.mk 0 0), r1_1) | .brk (r0_B5, mf2, r1_2) => bif (decide (r1_2 ≠ 0)) then (some ((Span.mk 0 0), r1_2)) else ((ixL x.Hanks hank).bind fun p => (g71 r0_B5 mf2 plan).bind fun r0_3 => (ixN 5 hank).bind fun j => some ((Span.mk (wr (p.Weight.Low - (r0_3 j))) (wr (p.Weight.High - (r0_3 j)))), 0))
theorem k21 (x : HairBook) (plan : (List Int)) (hank : Int) (r : Span × Int) (h : g21 x plan hank = some r) : SCall Tryd.prog Gs 21 [.agg (cv25 x), .d (.sl 1 (List.map e3 plan)), .d (I hank)] [] 0 Fr.emp (match r with | (r0_2, r1_4) => .tup [.agg [.d (I r0_2.Low), .d (I r0_2.High)], .d (I r1_4)]) [] 0 Fr.emp := by
 unfold g21 at h
 refine SCall.mkK Tryd.func21 c21 rfl rfl (by kernel_rfl) (fun Q_0 hR_0 hN_0 => ?_)
 refine AW.sa fokW [] ⟨[(3, .ptr 0 0), (4, .ptr 1 0), (5, .ptr 2 0), (6, .ptr 3 0)], [(3, .var 35 [.d (I 0), .d (I 0)]), (2, .var 3 [.d (I hank)]), (1, .var 26 [.d (.sl 1 (List.map e3 plan))]), (0, .var 25 (cv25 x))], 4, Fr.emp, [], 0⟩ (by kernel_rfl) ?_
 refine AW.srwK (fun Q_1 hQ_1 => ?_)
 refine RW.au fokW 2 [] ⟨[(3, .ptr 0 0), (4, .ptr 1 0), (5, .ptr 2 0), (6, .ptr 3 0), (13, .agg (cv25 x)), (14, .clo 70 [] [.ptr 1 0, .ptr 2 0])], [(3, .var 35 [.d (I 0), .d (I 0)]), (2, .var 3 [.d (I hank)]), (1, .var 26 [.d (.sl 1 (List.map e3 plan))]), (0, .var 25 (cv25 x))], 4, Fr.emp, [], 0⟩ (by kernel_rfl) ?_
 obtain ⟨r_12, hx_2, h⟩ := bsome h
 rcases r_12 with (⟨r0_B4, r1_1⟩ | (⟨r0_B5, mf2, r1_2⟩))
 ·refine RW.one fokW (r_callS (zr := []) [1, 2] trivial rfl (k55b x plan hank _ hx_2) ⟨rfl, rfl, trivial⟩ rfl rfl ⟨.refl _, .refl _, trivial⟩ rfl rfl rfl (r_end ?_))
  obtain ⟨_, hv_3, h⟩ := bsome h
  have hf_4 := must_ok hv_3
  refine RW.au fokW 6 [] ⟨[(3, .ptr 0 0), (4, .ptr 1 0), (5, .ptr 2 0), (6, .ptr 3 0), (8, .ptr 4 0), (9, .d (I r1_1))], [(4, .var 78 (catV (cv25 r0_B4) [.d (.nilMap)])), (1, .var 26 [.d (.sl 1 (List.map e3 plan))]), (2, .var 3 [.d (I hank)]), (3, .var 35 [.d (I 0), .d (I 0)]), (0, .var 25 (cv25 x))], 5, Fr.emp, [], 0⟩ (by kernel_rfl) ?_
  refine RW.nil ?_
  refine hQ_1 _ ?_
  refine AW.seqK (fun K_5 hK_5 => ?_)
  refine AW.sa fokW [] ⟨[(3, .ptr 0 0), (4, .ptr 1 0), (5, .ptr 2 0), (6, .ptr 3 0), (8, .ptr 4 0), (9, .d (I r1_1)), (19, .d (.bool (decide (r1_1 ≠ 0))))], [(4, .var 78 (catV (cv25 r0_B4) [.d (.nilMap)])), (1, .var 26 [.d (.sl 1 (List.map e3 plan))]), (2, .var 3 [.d (I hank)]), (3, .var 35 [.d (I 0), .d (I 0)]), (0, .var 25 (cv25 x))], 5, Fr.emp, [], 0⟩ (by kernel_rfl) ?_
  refine AW.cond rfl (fun hb_6 => ?_) (fun hb_6 => False.elim (by rw [hf_4] at hb_6; cases hb_6))
  refine AW.sa fokW [] ⟨[(6, .ptr 3 0), (7, .d (I r1_1))], [(3, .var 35 [.d (I 0), .d (I 0)])], 5, Fr.emp, [], 0⟩ (by kernel_rfl) ?_
  obtain rfl := Option.some.inj h
  exact AW.ret (hR_0 _ (retX (.cons (.agg rfl rfl (Nat.le_of_ble_eq_true rfl)) (.cons (.tmp rfl) .nil)) (.refl _) rfl (by kernel_rfl) (by kernel_rfl)))
 ·refine RW.one fokW (r_callS (zr := []) [1, 2] trivial rfl (k55b x plan hank _ hx_2) ⟨rfl, rfl, trivial⟩ rfl rfl ⟨.refl _, .refl _, trivial⟩ rfl rfl rfl (r_end ?_))
  refine RW.au fokW 6 [] ⟨[(3, .ptr 0 0), (4, .ptr 1 0), (5, .ptr 2 0), (6, .ptr 3 0), (8, .ptr 4 0), (9, .d (I r1_2))], [(4, .var 78 (hbm r0_B5 mf2)), (1, .var 26 [.d (.sl 1 (List.map e3 plan))]), (2, .var 3 [.d (I hank)]), (3, .var 35 [.d (I 0), .d (I 0)]), (0, .var 25 (cv25 x))], 5, Fr.emp, [], 0⟩ (by kernel_rfl) ?_
  refine RW.nil ?_
  refine hQ_1 _ ?_
  refine AW.seqK (fun K_7 hK_7 => ?_)
  refine AW.sa fokW [] ⟨[(3, .ptr 0 0), (4, .ptr 1 0), (5, .ptr 2 0), (6, .ptr 3 0), (8, .ptr 4 0), (9, .d (I r1_2)), (19, .d (.bool (decide (r1_2 ≠ 0))))], [(4, .var 78 (hbm r0_B5 mf2)), (1, .var 26 [.d (.sl 1 (List.map e3 plan))]), (2, .var 3 [.d (I hank)]), (3, .var 35 [.d (I 0), .d (I 0)]), (0, .var 25 (cv25 x))], 5, Fr.emp, [], 0⟩ (by kernel_rfl) ?_
  refine AW.cond rfl (fun hb_8 => ?_) (fun hb_8 => ?_)
  ·have h := ifT hb_8 h
   refine AW.sa fokW [] ⟨[(6, .ptr 3 0), (7, .d (I r1_2))], [(3, .var 35 [.d (I 0), .d (I 0)])], 5, Fr.emp, [], 0⟩ (by kernel_rfl) ?_
   obtain rfl := Option.some.inj h
   exact AW.ret (hR_0 _ (retX (.cons (.agg rfl rfl (Nat.le_of_ble_eq_true rfl)) (.cons (.tmp rfl) .nil)) (.refl _) rfl (by kernel_rfl) (by kernel_rfl)))
  ·have h := ifF hb_8 h
   refine AW.skip ?_
   refine hK_7 _ ?_
   refine AW.sdrwK fokW (fun Q_9 hQ_9 => ?_)
   refine RunC.auX 3 ⟨[(4, .ptr 1 0), (5, .ptr 2 0), (6, .ptr 3 0), (8, .ptr 4 0), (23, .d (.sl 4 (List.map e58 x.Hanks))), (24, .d (I hank))], [(4, .var 78 (hbm r0_B5 mf2)), (1, .var 26 [.d (.sl 1 (List.map e3 plan))]), (2, .var 3 [.d (I hank)]), (3, .var 35 [.d (I 0), .d (I 0)]), (0, .var 25 (cv25 x))], 5, Fr.emp, [], 0⟩ (by kernel_rfl) ?_
   obtain ⟨p, hv_10, h⟩ := bsome h
   refine r_iaD trivial rfl rfl (ixL_ok hv_10).1 (row := e58 p) (mapget (ixL_ok hv_10).2) ?_
   refine RunC.auX 4 ⟨[(5, .ptr 2 0), (6, .ptr 3 0), (27, .agg [.d (I p.Weight.Low), .d (I p.Weight.High)]), (28, .agg (hbm r0_B5 mf2)), (29, .d (.sl 1 (List.map e3 plan)))], [(4, .var 78 (hbm r0_B5 mf2)), (1, .var 26 [.d (.sl 1 (List.map e3 plan))]), (2, .var 3 [.d (I hank)]), (3, .var 35 [.d (I 0), .d (I 0)]), (0, .var 25 (cv25 x))], 5, Fr.emp, [], 0⟩ (by kernel_rfl) ?_
   obtain ⟨r0_3, hx_11, h⟩ := bsome h
   refine r_call trivial rfl (k71 r0_B5 mf2 plan _ hx_11) rfl rfl ?_
   refine RunC.auX 1 ⟨[(6, .ptr 3 0), (27, .agg [.d (I p.Weight.Low), .d (I p.Weight.High)]), (30, .agg (c5 r0_3)), (31, .d (I hank))], [(4, .var 78 (hbm r0_B5 mf2)), (1, .var 26 [.d (.sl 1 (List.map e3 plan))]), (2, .var 3 [.d (I hank)]), (3, .var 35 [.d (I 0), .d (I 0)]), (0, .var 25 (cv25 x))], 5, Fr.emp, [], 0⟩ (by kernel_rfl) ?_
   obtain ⟨j, hv_12, h⟩ := bsome h
   refine r_idx trivial rfl rfl (ixN_ok hv_12).1 (ixN_ok hv_12).2.1 (u := .d (I (r0_3 j))) (agt (f := fun k => .d (I (r0_3 k))) hv_12) ?_
   refine RunC.auX 3 ⟨[(6, .ptr 3 0), (10, .ptr 5 0), (11, .d (I (r0_3 j)))], [(5, .var 35 [.d (I p.Weight.Low), .d (I p.Weight.High)]), (4, .var 78 (hbm r0_B5 mf2)), (1, .var 26 [.d (.sl 1 (List.map e3 plan))]), (2, .var 3 [.d (I hank)]), (3, .var 35 [.d (I 0), .d (I 0)]), (0, .var 25 (cv25 x))], 6, Fr.emp, [], 0⟩ (by kernel_rfl) ?_
   refine RunC.fin ⟨[(6, .ptr 3 0), (10, .ptr 5 0), (11, .d (I (r0_3 j)))], [(5, .var 35 [.d (I p.Weight.Low), .d (I p.Weight.High)]), (3, .var 35 [.d (I 0), .d (I 0)])], 6, Fr.emp, [], 0⟩ (by kernel_rfl) (by kernel_rfl) ?_
   refine hQ_9 _ ?_
   refine AW.sa fokW [] ⟨[(6, .ptr 3 0), (7, .d (I 0))], [(3, .var 35 [.d (I (wr (p.Weight.Low - (r0_3 j)))), .d (I (wr (p.Weight.High - (r0_3 j))))])], 6, Fr.emp, [], 0⟩ (by kernel_rfl) ?_
   obtain rfl := Option.some.inj h
   exact AW.ret (hR_0 _ (retX (.cons (.agg rfl rfl (Nat.le_of_ble_eq_true rfl)) (.cons (.tmp rfl) .nil)) (.refl _) rfl (by kernel_rfl) (by kernel_rfl)))
def g72 (b : HairBook) (plan : (List Int)) (ok : Bool) : Option Int := (g18 b).bind fun r0_9 => bif (decide (r0_9 ≠ 0)) then (some r0_9) else ((bif (!ok) then (some true) else ((g68 b plan).bind fun r0 => some (!r0))).bind fun v => (bif v then (some true) else ((g69 b plan).bind fun r0_1 => some (!r0_1))).bind fun v1 => bif v1 then (some 61) else (some 0))
theorem k72 (b : HairBook) (plan : (List Int)) (ok : Bool) (r : Int) (h : g72 b plan ok = some r) : SCall Tryd.prog Gs 72 [.agg (cv25 b), .d (.sl 1 (List.map e3 plan)), .d (.bool ok)] [] 0 Fr.emp (.d (I r)) [] 0 Fr.emp := by
 unfold g72 at h
 refine SCall.mkK Tryd.func72 c72 rfl rfl (by kernel_rfl) (fun Q_0 hR_0 hN_0 => ?_)
 refine AW.sa fokW [] ⟨[(1, .d (.sl 1 (List.map e3 plan))), (2, .d (.bool ok)), (3, .ptr 0 0)], [(0, .var 25 (cv25 b))], 1, Fr.emp, [], 0⟩ (by kernel_rfl) ?_
 refine AW.seqK (fun K_1 hK_1 => ?_)
 refine AW.srwK (fun Q_2 hQ_2 => ?_)
 refine RW.au fokW 1 [] ⟨[(1, .d (.sl 1 (List.map e3 plan))), (2, .d (.bool ok)), (3, .ptr 0 0), (8, .agg (cv25 b))], [(0, .var 25 (cv25 b))], 1, Fr.emp, [], 0⟩ (by kernel_rfl) ?_
 obtain ⟨r0_9, hx_3, h⟩ := bsome h
 refine RW.one fokW (r_call trivial rfl (k18 b _ hx_3) rfl rfl (r_end ?_))
 refine RW.au fokW 1 [] ⟨[(1, .d (.sl 1 (List.map e3 plan))), (2, .d (.bool ok)), (3, .ptr 0 0), (7, .d (I r0_9))], [(0, .var 25 (cv25 b))], 1, Fr.emp, [], 0⟩ (by kernel_rfl) ?_
 refine RW.nil ?_
 refine hQ_2 _ ?_
 refine AW.sa fokW [] ⟨[(1, .d (.sl 1 (List.map e3 plan))), (2, .d (.bool ok)), (3, .ptr 0 0), (7, .d (I r0_9)), (11, .d (.bool (decide (r0_9 ≠ 0))))], [(0, .var 25 (cv25 b))], 1, Fr.emp, [], 0⟩ (by kernel_rfl) ?_
 refine AW.cond rfl (fun hb_4 => ?_) (fun hb_4 => ?_)
 ·have h := ifT hb_4 h
  refine AW.sa fokW [] ⟨[(6, .d (I r0_9))], [], 1, Fr.emp, [], 0⟩ (by kernel_rfl) ?_
  obtain rfl := Option.some.inj h
  exact AW.ret (hR_0 _ (retX (.cons (.tmp rfl) .nil) (.refl _) rfl (by kernel_rfl) (by kernel_rfl)))
 ·have h := ifF hb_4 h
  refine AW.skip ?_
  refine hK_1 _ ?_
  refine AW.seqK (fun K_5 hK_5 => ?_)
  refine AW.srwK (fun Q_6 hQ_6 => ?_)
  refine RW.au fokW 3 [] ⟨[(1, .d (.sl 1 (List.map e3 plan))), (3, .ptr 0 0), (15, .d (.bool (!ok)))], [(0, .var 25 (cv25 b))], 1, Fr.emp, [], 0⟩ (by kernel_rfl) ?_
  obtain ⟨v, hx_7, h⟩ := bsome h
  refine RW.cut fokW 5 (⟨[(1, .d (.sl 1 (List.map e3 plan))), (3, .ptr 0 0), (20, .d (.bool v))], [(0, .var 25 (cv25 b))], 1, Fr.emp, [], 0⟩) ?_ ?_
  ·refine r_split 15 rfl (fun hb_9 => ?_) (fun hb_9 => ?_)
   ·have h := ifT hb_9 hx_7
    refine RunC.auX 5 ⟨[(1, .d (.sl 1 (List.map e3 plan))), (3, .ptr 0 0), (20, .d (.bool true))], [(0, .var 25 (cv25 b))], 1, Fr.emp, [], 0⟩ (by kernel_rfl) ?_
    obtain rfl := Option.some.inj h
    refine RunC.finJ (Can.kp (by kernel_rfl))
   ·have h := ifF hb_9 hx_7
    refine RunC.auX 2 ⟨[(1, .d (.sl 1 (List.map e3 plan))), (3, .ptr 0 0), (15, .d (.bool false)), (16, .agg (cv25 b)), (17, .d (.sl 1 (List.map e3 plan)))], [(0, .var 25 (cv25 b))], 1, Fr.emp, [], 0⟩ (by kernel_rfl) ?_
    obtain ⟨r0, hx_8, h⟩ := bsome h
    refine r_call rfl rfl (k68 b plan _ hx_8) rfl rfl ?_
    refine RunC.auX 2 ⟨[(1, .d (.sl 1 (List.map e3 plan))), (3, .ptr 0 0), (20, .d (.bool (!r0)))], [(0, .var 25 (cv25 b))], 1, Fr.emp, [], 0⟩ (by kernel_rfl) ?_
    obtain rfl := Option.some.inj h
    refine RunC.finJ (Can.kp (by kernel_rfl))
  ·refine RW.au fokW 1 [] ⟨[(1, .d (.sl 1 (List.map e3 plan))), (3, .ptr 0 0), (21, .d (.bool v))], [(0, .var 25 (cv25 b))], 1, Fr.emp, [], 0⟩ (by kernel_rfl) ?_
   obtain ⟨v1, hx_10, h⟩ := bsome h
   refine RW.cut fokW 5 (⟨[(26, .d (.bool v1))], [], 1, Fr.emp, [], 0⟩) ?_ ?_
   ·refine r_split 21 rfl (fun hb_12 => ?_) (fun hb_12 => ?_)
    ·have h := ifT hb_12 hx_10
     refine RunC.auX 5 ⟨[(26, .d (.bool true))], [(0, .var 25 (cv25 b))], 1, Fr.emp, [], 0⟩ (by kernel_rfl) ?_
     obtain rfl := Option.some.inj h
     refine RunC.finJ (Can.kp (by kernel_rfl))
    ·have h := ifF hb_12 hx_10
     refine RunC.auX 2 ⟨[(21, .d (.bool false)), (22, .agg (cv25 b)), (23, .d (.sl 1 (List.map e3 plan)))], [(0, .var 25 (cv25 b))], 1, Fr.emp, [], 0⟩ (by kernel_rfl) ?_
     obtain ⟨r0_1, hx_11, h⟩ := bsome h
     refine r_call rfl rfl (k69 b plan _ hx_11) rfl rfl ?_
     refine RunC.auX 2 ⟨[(26, .d (.bool (!r0_1)))], [(0, .var 25 (cv25 b))], 1, Fr.emp, [], 0⟩ (by kernel_rfl) ?_
     obtain rfl := Option.some.inj h
     refine RunC.finJ (Can.kp (by kernel_rfl))
   ·refine RW.nil ?_
    refine hQ_6 _ ?_
    refine AW.cond rfl (fun hb_13 => ?_) (fun hb_13 => ?_)
    ·have h := ifT hb_13 h
     refine AW.sa fokW [] ⟨[(6, .d (I 61))], [], 1, Fr.emp, [], 0⟩ (by kernel_rfl) ?_
     obtain rfl := Option.some.inj h
     exact AW.ret (hR_0 _ (retX (.cons (.tmp rfl) .nil) (.refl _) rfl (by kernel_rfl) (by kernel_rfl)))
    ·have h := ifF hb_13 h
     refine AW.skip ?_
     refine hK_5 _ ?_
     refine AW.sa fokW [] ⟨[(6, .d (I 0))], [], 1, Fr.emp, [], 0⟩ (by kernel_rfl) ?_
     obtain rfl := Option.some.inj h
     exact AW.ret (hR_0 _ (retX (.cons (.tmp rfl) .nil) (.refl _) rfl (by kernel_rfl) (by kernel_rfl)))
def g44 (low : Int) (high : Int) : Option Span := some (Span.mk low high)
theorem k44 (low : Int) (high : Int) (r : Span) (h : g44 low high = some r) : SCall Tryd.prog Gs 44 [.d (I low), .d (I high)] [] 0 Fr.emp (.agg [.d (I r.Low), .d (I r.High)]) [] 0 Fr.emp := by
 unfold g44 at h
 refine SCall.mkK Tryd.func44 c44 rfl rfl (by kernel_rfl) (fun Q_0 hR_0 hN_0 => ?_)
 refine AW.sa fokW [] ⟨[(0, .d (I low)), (1, .d (I high)), (4, .ptr 0 0)], [(0, .var 35 [.d (I 0), .d (I 0)])], 1, Fr.emp, [], 0⟩ (by kernel_rfl) ?_
 refine AW.sa fokW [] ⟨[(4, .ptr 0 0)], [(0, .var 35 [.d (I low), .d (I high)])], 1, Fr.emp, [], 0⟩ (by kernel_rfl) ?_
 obtain rfl := Option.some.inj h
 exact AW.ret (hR_0 _ (retX (.cons (.agg rfl rfl (Nat.le_of_ble_eq_true rfl)) .nil) (.refl _) rfl (by kernel_rfl) (by kernel_rfl)))
def g73 (b : HairBook) (plan : (List Int)) (hank : Int) : Option Span := (g106 b plan hank).bind fun r0 => (ixL b.Hanks hank).bind fun p => (g44 (wr (p.Weight.Low - r0)) (wr (p.Weight.High - r0))).bind fun r0_1 => some r0_1
theorem k73 (b : HairBook) (plan : (List Int)) (hank : Int) (r : Span) (h : g73 b plan hank = some r) : SCall Tryd.prog Gs 73 [.agg (cv25 b), .d (.sl 1 (List.map e3 plan)), .d (I hank)] [] 0 Fr.emp (.agg [.d (I r.Low), .d (I r.High)]) [] 0 Fr.emp := by
 unfold g73 at h
 refine SCall.mkK Tryd.func73 c73 rfl rfl (by kernel_rfl) (fun Q_0 hR_0 hN_0 => ?_)
 refine AW.sa fokW [] ⟨[(1, .d (.sl 1 (List.map e3 plan))), (2, .d (I hank)), (3, .ptr 0 0), (6, .ptr 1 0)], [(1, .var 35 [.d (I 0), .d (I 0)]), (0, .var 25 (cv25 b))], 2, Fr.emp, [], 0⟩ (by kernel_rfl) ?_
 refine AW.sdrwK fokW (fun Q_1 hQ_1 => ?_)
 refine RunC.auX 3 ⟨[(2, .d (I hank)), (3, .ptr 0 0), (6, .ptr 1 0), (9, .agg (cv25 b)), (10, .d (.sl 1 (List.map e3 plan))), (11, .d (I hank))], [(1, .var 35 [.d (I 0), .d (I 0)]), (0, .var 25 (cv25 b))], 2, Fr.emp, [], 0⟩ (by kernel_rfl) ?_
 obtain ⟨r0, hx_2, h⟩ := bsome h
 refine r_call trivial rfl (k106 b plan hank _ hx_2) rfl rfl ?_
 refine RunC.auX 3 ⟨[(6, .ptr 1 0), (12, .d (I r0)), (14, .d (.sl 4 (List.map e58 b.Hanks))), (15, .d (I hank))], [(1, .var 35 [.d (I 0), .d (I 0)]), (0, .var 25 (cv25 b))], 2, Fr.emp, [], 0⟩ (by kernel_rfl) ?_
 obtain ⟨p, hv_3, h⟩ := bsome h
 refine r_iaD trivial rfl rfl (ixL_ok hv_3).1 (row := e58 p) (mapget (ixL_ok hv_3).2) ?_
 refine RunC.auX 5 ⟨[(6, .ptr 1 0), (7, .d (I r0)), (8, .ptr 2 0)], [(2, .var 35 [.d (I p.Weight.Low), .d (I p.Weight.High)]), (1, .var 35 [.d (I 0), .d (I 0)]), (0, .var 25 (cv25 b))], 3, Fr.emp, [], 0⟩ (by kernel_rfl) ?_
 refine RunC.fin ⟨[(6, .ptr 1 0), (7, .d (I r0)), (8, .ptr 2 0)], [(2, .var 35 [.d (I p.Weight.Low), .d (I p.Weight.High)]), (1, .var 35 [.d (I 0), .d (I 0)])], 3, Fr.emp, [], 0⟩ (by kernel_rfl) (by kernel_rfl) ?_
 refine hQ_1 _ ?_
 refine AW.srwK (fun Q_4 hQ_4 => ?_)
 refine RW.au fokW 8 [] ⟨[(6, .ptr 1 0), (22, .d (I (wr (p.Weight.Low - r0)))), (26, .d (I (wr (p.Weight.High - r0))))], [(1, .var 35 [.d (I 0), .d (I 0)])], 3, Fr.emp, [], 0⟩ (by kernel_rfl) ?_
 obtain ⟨r0_1, hx_5, h⟩ := bsome h
 refine RW.one fokW (r_call trivial rfl (k44 (wr (p.Weight.Low - r0)) (wr (p.Weight.High - r0)) _ hx_5) rfl rfl (r_end ?_))
 refine RW.au fokW 1 [] ⟨[(6, .ptr 1 0)], [(1, .var 35 [.d (I r0_1.Low), .d (I r0_1.High)])], 3, Fr.emp, [], 0⟩ (by kernel_rfl) ?_
 refine RW.nil ?_
 refine hQ_4 _ ?_
 obtain rfl := Option.some.inj h
 exact AW.ret (hR_0 _ (retX (.cons (.agg rfl rfl (Nat.le_of_ble_eq_true rfl)) .nil) (.refl _) rfl (by kernel_rfl) (by kernel_rfl)))
def g22 (b : HairBook) (plan : (List Int)) (hank : Int) : Option (Span × Int) := (g61 b hank).bind fun r0_1 => (g72 b plan r0_1).bind fun r0_4 => bif (decide (r0_4 ≠ 0)) then (some ((Span.mk 0 0), r0_4)) else ((g73 b plan hank).bind fun r0_2 => some (r0_2, 0))
theorem k22 (b : HairBook) (plan : (List Int)) (hank : Int) (r : Span × Int) (h : g22 b plan hank = some r) : SCall Tryd.prog Gs 22 [.agg (cv25 b), .d (.sl 1 (List.map e3 plan)), .d (I hank)] [] 0 Fr.emp (match r with | (r0_3, r1_1) => .tup [.agg [.d (I r0_3.Low), .d (I r0_3.High)], .d (I r1_1)]) [] 0 Fr.emp := by
 unfold g22 at h
 refine SCall.mkK Tryd.func22 c22 rfl rfl (by kernel_rfl) (fun Q_0 hR_0 hN_0 => ?_)
 refine AW.sa fokW [] ⟨[(1, .d (.sl 1 (List.map e3 plan))), (2, .d (I hank)), (3, .ptr 0 0), (6, .ptr 1 0)], [(1, .var 35 [.d (I 0), .d (I 0)]), (0, .var 25 (cv25 b))], 2, Fr.emp, [], 0⟩ (by kernel_rfl) ?_
 refine AW.seqK (fun K_1 hK_1 => ?_)
 refine AW.sdrwK fokW (fun Q_2 hQ_2 => ?_)
 refine RunC.auX 4 ⟨[(1, .d (.sl 1 (List.map e3 plan))), (2, .d (I hank)), (3, .ptr 0 0), (6, .ptr 1 0), (9, .agg (cv25 b)), (10, .d (.sl 1 (List.map e3 plan))), (11, .agg (cv25 b)), (12, .d (I hank))], [(1, .var 35 [.d (I 0), .d (I 0)]), (0, .var 25 (cv25 b))], 2, Fr.emp, [], 0⟩ (by kernel_rfl) ?_
 obtain ⟨r0_1, hx_3, h⟩ := bsome h
 refine r_call trivial rfl (k61 b hank _ hx_3) rfl rfl ?_
 obtain ⟨r0_4, hx_4, h⟩ := bsome h
 refine r_call trivial rfl (k72 b plan r0_1 _ hx_4) rfl rfl ?_
 refine RunC.auX 1 ⟨[(1, .d (.sl 1 (List.map e3 plan))), (2, .d (I hank)), (3, .ptr 0 0), (6, .ptr 1 0), (8, .d (I r0_4))], [(1, .var 35 [.d (I 0), .d (I 0)]), (0, .var 25 (cv25 b))], 2, Fr.emp, [], 0⟩ (by kernel_rfl) ?_
 refine RunC.fin ⟨[(1, .d (.sl 1 (List.map e3 plan))), (2, .d (I hank)), (3, .ptr 0 0), (6, .ptr 1 0), (8, .d (I r0_4))], [(1, .var 35 [.d (I 0), .d (I 0)]), (0, .var 25 (cv25 b))], 2, Fr.emp, [], 0⟩ (by kernel_rfl) (by kernel_rfl) ?_
 refine hQ_2 _ ?_
 refine AW.sa fokW [] ⟨[(1, .d (.sl 1 (List.map e3 plan))), (2, .d (I hank)), (3, .ptr 0 0), (6, .ptr 1 0), (8, .d (I r0_4)), (16, .d (.bool (decide (r0_4 ≠ 0))))], [(1, .var 35 [.d (I 0), .d (I 0)]), (0, .var 25 (cv25 b))], 2, Fr.emp, [], 0⟩ (by kernel_rfl) ?_
 refine AW.cond rfl (fun hb_5 => ?_) (fun hb_5 => ?_)
 ·have h := ifT hb_5 h
  refine AW.sa fokW [] ⟨[(6, .ptr 1 0), (7, .d (I r0_4))], [(1, .var 35 [.d (I 0), .d (I 0)])], 2, Fr.emp, [], 0⟩ (by kernel_rfl) ?_
  obtain rfl := Option.some.inj h
  exact AW.ret (hR_0 _ (retX (.cons (.agg rfl rfl (Nat.le_of_ble_eq_true rfl)) (.cons (.tmp rfl) .nil)) (.refl _) rfl (by kernel_rfl) (by kernel_rfl)))
 ·have h := ifF hb_5 h
  refine AW.skip ?_
  refine hK_1 _ ?_
  refine AW.srwK (fun Q_6 hQ_6 => ?_)
  refine RW.au fokW 3 [] ⟨[(6, .ptr 1 0), (19, .agg (cv25 b)), (20, .d (.sl 1 (List.map e3 plan))), (21, .d (I hank))], [(1, .var 35 [.d (I 0), .d (I 0)])], 2, Fr.emp, [], 0⟩ (by kernel_rfl) ?_
  obtain ⟨r0_2, hx_7, h⟩ := bsome h
  refine RW.one fokW (r_call trivial rfl (k73 b plan hank _ hx_7) rfl rfl (r_end ?_))
  refine RW.au fokW 2 [] ⟨[(6, .ptr 1 0), (7, .d (I 0))], [(1, .var 35 [.d (I r0_2.Low), .d (I r0_2.High)])], 2, Fr.emp, [], 0⟩ (by kernel_rfl) ?_
  refine RW.nil ?_
  refine hQ_6 _ ?_
  obtain rfl := Option.some.inj h
  exact AW.ret (hR_0 _ (retX (.cons (.agg rfl rfl (Nat.le_of_ble_eq_true rfl)) (.cons (.tmp rfl) .nil)) (.refl _) rfl (by kernel_rfl) (by kernel_rfl)))
def g74 (b_B : HairBook) (mf : List (Hair_dye × Span)) (o0 : (List Int)) : Option Bool := (g66 b_B mf o0).bind fun r0_1 => (bif r0_1 then ((g67 b_B mf o0).bind fun r0_4 => some r0_4) else (some false)).bind fun v => some v
theorem k74 (b_B : HairBook) (mf : List (Hair_dye × Span)) (o0 : (List Int)) (r : Bool) (h : g74 b_B mf o0 = some r) : SCall Tryd.prog Gs 74 [.agg (hbm b_B mf), .ptr 0 0] [(0, .var 26 [.d (.sl 1 (List.map e3 o0))])] 1 Fr.emp (.d (.bool r)) [(0, .var 26 [.d (.sl 1 (List.map e3 o0))])] 1 Fr.emp := by
 unfold g74 at h
 refine SCall.mkK Tryd.func74 c74 rfl rfl (by kernel_rfl) (fun Q_0 hR_0 hN_0 => ?_)
 refine AW.sa fokW [] ⟨[(1, .ptr 0 0), (2, .ptr 1 0)], [(1, .var 78 (hbm b_B mf)), (0, .var 26 [.d (.sl 1 (List.map e3 o0))])], 2, Fr.emp, [], 1⟩ (by kernel_rfl) ?_
 refine AW.srwK (fun Q_1 hQ_1 => ?_)
 refine RW.au fokW 2 [] ⟨[(1, .ptr 0 0), (2, .ptr 1 0), (4, .agg (hbm b_B mf)), (5, .d (.sl 1 (List.map e3 o0)))], [(1, .var 78 (hbm b_B mf)), (0, .var 26 [.d (.sl 1 (List.map e3 o0))])], 2, Fr.emp, [], 1⟩ (by kernel_rfl) ?_
 obtain ⟨r0_1, hx_2, h⟩ := bsome h
 refine RW.one fokW (r_call trivial rfl (k66 b_B mf o0 _ hx_2) rfl rfl (r_end ?_))
 refine RW.au fokW 1 [] ⟨[(1, .ptr 0 0), (2, .ptr 1 0), (7, .d (.bool r0_1))], [(1, .var 78 (hbm b_B mf)), (0, .var 26 [.d (.sl 1 (List.map e3 o0))])], 2, Fr.emp, [], 1⟩ (by kernel_rfl) ?_
 obtain ⟨v, hx_3, h⟩ := bsome h
 refine RW.cut fokW 4 (⟨[(11, .d (.bool v))], [(0, .var 26 [.d (.sl 1 (List.map e3 o0))])], 2, Fr.emp, [], 1⟩) ?_ ?_
 ·refine r_split 7 rfl (fun hb_5 => ?_) (fun hb_5 => ?_)
  ·have h := ifT hb_5 hx_3
   refine RunC.auX 2 ⟨[(7, .d (.bool true)), (8, .agg (hbm b_B mf)), (9, .d (.sl 1 (List.map e3 o0)))], [(1, .var 78 (hbm b_B mf)), (0, .var 26 [.d (.sl 1 (List.map e3 o0))])], 2, Fr.emp, [], 1⟩ (by kernel_rfl) ?_
   obtain ⟨r0_4, hx_4, h⟩ := bsome h
   refine r_call rfl rfl (k67 b_B mf o0 _ hx_4) rfl rfl ?_
   refine RunC.auX 1 ⟨[(11, .d (.bool r0_4))], [(1, .var 78 (hbm b_B mf)), (0, .var 26 [.d (.sl 1 (List.map e3 o0))])], 2, Fr.emp, [], 1⟩ (by kernel_rfl) ?_
   obtain rfl := Option.some.inj h
   refine RunC.finJ (Can.kp (by kernel_rfl))
  ·have h := ifF hb_5 hx_3
   refine RunC.auX 4 ⟨[(11, .d (.bool false))], [(1, .var 78 (hbm b_B mf)), (0, .var 26 [.d (.sl 1 (List.map e3 o0))])], 2, Fr.emp, [], 1⟩ (by kernel_rfl) ?_
   obtain rfl := Option.some.inj h
   refine RunC.finJ (Can.kp (by kernel_rfl))
 ·refine RW.au fokW 1 [] ⟨[(3, .d (.bool v))], [(0, .var 26 [.d (.sl 1 (List.map e3 o0))])], 2, Fr.emp, [], 1⟩ (by kernel_rfl) ?_
  refine RW.nil ?_
  refine hQ_1 _ ?_
  obtain rfl := Option.some.inj h
  exact AW.ret (hR_0 _ (retX (.cons (.tmp rfl) .nil) (.refl _) rfl (by kernel_rfl) (by kernel_rfl)))
def g55c (x : HairBook) (o0 : (List Int)) : Option (Ctl (HairBook × Int) (HairBook × (List (Hair_dye × Span)) × Int)) := (g17 x).bind fun r0_9 => bif (decide (r0_9 ≠ 0)) then (some (.next ((HairBook.mk [] [] 0 0 0), r0_9))) else ((g80 x).bind fun (r0_B, mf) => (g74 r0_B mf o0).bind fun r0 => bif (!r0) then (some (.brk (r0_B, mf, 61))) else (some (.brk (r0_B, mf, 0))))
theorem k55c (x : HairBook) (o0 : (List Int)) (r : Ctl (HairBook × Int) (HairBook × (List (Hair_dye × Span)) × Int)) (h : g55c x o0 = some r) : SCall Tryd.prog Gs 55 [.agg (cv25 x), .clo 74 [] [.ptr 0 0]] [(0, .var 26 [.d (.sl 1 (List.map e3 o0))])] 1 Fr.emp (match r with | .next (r0_B4, r1_1) => .tup [.agg [.d (.sl 4 (List.map e58 r0_B4.Hanks)), .d (.sl 3 (List.map e69 r0_B4.Horses)), .d (I r0_B4.Dark), .d (I r0_B4.Near), .d (I r0_B4.Match), .d (.nilMap)], .d (I r1_1)] | .brk (r0_B5, mf2, r1_2) => .tup [.agg (hbm r0_B5 mf2), .d (I r1_2)]) (match r with | .next (r0_B4, r1_1) => [(0, .var 26 [.d (.sl 1 (List.map e3 o0))])] | .brk (r0_B5, mf2, r1_2) => [(0, .var 26 [.d (.sl 1 (List.map e3 o0))])]) 1 Fr.emp := by
 unfold g55c at h
 refine SCall.mkK Tryd.func55 c55 rfl (by rcases r with _ | _ <;> rfl) (by rcases r with _ | _ <;> kernel_rfl) (fun Q_0 hR_0 hN_0 => ?_)
 refine AW.sa fokW [] ⟨[(1, .clo 74 [] [.ptr 0 0]), (2, .ptr 1 0), (4, .ptr 2 0)], [(2, .var 78 [.d (.nilSl), .d (.nilSl), .d (I 0), .d (I 0), .d (I 0), .d (.nilMap)]), (1, .var 25 (cv25 x)), (0, .var 26 [.d (.sl 1 (List.map e3 o0))])], 3, Fr.emp, [], 1⟩ (by kernel_rfl) ?_
 refine AW.seqK (fun K_1 hK_1 => ?_)
 refine AW.srwK (fun Q_2 hQ_2 => ?_)
 refine RW.au fokW 1 [] ⟨[(1, .clo 74 [] [.ptr 0 0]), (2, .ptr 1 0), (4, .ptr 2 0), (8, .agg (cv25 x))], [(2, .var 78 [.d (.nilSl), .d (.nilSl), .d (I 0), .d (I 0), .d (I 0), .d (.nilMap)]), (1, .var 25 (cv25 x)), (0, .var 26 [.d (.sl 1 (List.map e3 o0))])], 3, Fr.emp, [], 1⟩ (by kernel_rfl) ?_
 obtain ⟨r0_9, hx_3, h⟩ := bsome h
 refine RW.one fokW (r_call trivial rfl (k17 x _ hx_3) rfl rfl (r_end ?_))
 refine RW.au fokW 1 [] ⟨[(1, .clo 74 [] [.ptr 0 0]), (2, .ptr 1 0), (4, .ptr 2 0), (6, .d (I r0_9))], [(2, .var 78 [.d (.nilSl), .d (.nilSl), .d (I 0), .d (I 0), .d (I 0), .d (.nilMap)]), (1, .var 25 (cv25 x)), (0, .var 26 [.d (.sl 1 (List.map e3 o0))])], 3, Fr.emp, [], 1⟩ (by kernel_rfl) ?_
 refine RW.nil ?_
 refine hQ_2 _ ?_
 refine AW.sa fokW [] ⟨[(1, .clo 74 [] [.ptr 0 0]), (2, .ptr 1 0), (4, .ptr 2 0), (6, .d (I r0_9)), (11, .d (.bool (decide (r0_9 ≠ 0))))], [(2, .var 78 [.d (.nilSl), .d (.nilSl), .d (I 0), .d (I 0), .d (I 0), .d (.nilMap)]), (1, .var 25 (cv25 x)), (0, .var 26 [.d (.sl 1 (List.map e3 o0))])], 3, Fr.emp, [], 1⟩ (by kernel_rfl) ?_
 refine AW.cond rfl (fun hb_4 => ?_) (fun hb_4 => ?_)
 ·have h := ifT hb_4 h
  refine AW.sa fokW [] ⟨[(4, .ptr 2 0), (5, .d (I r0_9))], [(2, .var 78 [.d (.nilSl), .d (.nilSl), .d (I 0), .d (I 0), .d (I 0), .d (.nilMap)]), (0, .var 26 [.d (.sl 1 (List.map e3 o0))])], 3, Fr.emp, [], 1⟩ (by kernel_rfl) ?_
  obtain rfl := Option.some.inj h
  exact AW.ret (hR_0 _ (retX (.cons (.agg rfl rfl (Nat.le_of_ble_eq_true rfl)) (.cons (.tmp rfl) .nil)) (Frz.tup_of ⟨Frz.agg_of ⟨(.nil 4), (.nil 3), .refl _, .refl _, .refl _, .refl _, trivial⟩, .refl _, trivial⟩) rfl (by kernel_rfl) (by kernel_rfl)))
 ·have h := ifF hb_4 h
  refine AW.skip ?_
  refine hK_1 _ ?_
  refine AW.srwK (fun Q_5 hQ_5 => ?_)
  refine RW.au fokW 1 [] ⟨[(1, .clo 74 [] [.ptr 0 0]), (4, .ptr 2 0), (14, .agg (cv25 x))], [(2, .var 78 [.d (.nilSl), .d (.nilSl), .d (I 0), .d (I 0), .d (I 0), .d (.nilMap)]), (0, .var 26 [.d (.sl 1 (List.map e3 o0))])], 3, Fr.emp, [], 1⟩ (by kernel_rfl) ?_
  obtain ⟨⟨r0_B, mf⟩, hx_6, h⟩ := bsome h
  refine RW.one fokW (r_call trivial rfl (k80 x _ hx_6) rfl rfl (r_end ?_))
  refine RW.au fokW 2 [] ⟨[(1, .clo 74 [] [.ptr 0 0]), (4, .ptr 2 0), (7, .ptr 3 0)], [(3, .var 78 (hbm r0_B mf)), (2, .var 78 [.d (.nilSl), .d (.nilSl), .d (I 0), .d (I 0), .d (I 0), .d (.nilMap)]), (0, .var 26 [.d (.sl 1 (List.map e3 o0))])], 4, Fr.emp, [], 1⟩ (by kernel_rfl) ?_
  refine RW.nil ?_
  refine hQ_5 _ ?_
  refine AW.seqK (fun K_7 hK_7 => ?_)
  refine AW.srwK (fun Q_8 hQ_8 => ?_)
  refine RW.au fokW 2 [] ⟨[(4, .ptr 2 0), (7, .ptr 3 0), (16, .clo 74 [] [.ptr 0 0]), (17, .agg (hbm r0_B mf))], [(3, .var 78 (hbm r0_B mf)), (2, .var 78 [.d (.nilSl), .d (.nilSl), .d (I 0), .d (I 0), .d (I 0), .d (.nilMap)]), (0, .var 26 [.d (.sl 1 (List.map e3 o0))])], 4, Fr.emp, [], 1⟩ (by kernel_rfl) ?_
  obtain ⟨r0, hx_9, h⟩ := bsome h
  refine RW.one fokW (r_callvE (zr := []) [0] trivial rfl (.clo _ _ _) (by kernel_rfl) rfl (k74 r0_B mf o0 _ hx_9) ⟨rfl, trivial⟩ rfl rfl ⟨.refl _, .refl _, trivial⟩ rfl rfl rfl (r_end ?_))
  refine RW.au fokW 1 [] ⟨[(4, .ptr 2 0), (7, .ptr 3 0), (19, .d (.bool (!r0)))], [(0, .var 26 [.d (.sl 1 (List.map e3 o0))]), (3, .var 78 (hbm r0_B mf)), (2, .var 78 [.d (.nilSl), .d (.nilSl), .d (I 0), .d (I 0), .d (I 0), .d (.nilMap)])], 4, Fr.emp, [], 1⟩ (by kernel_rfl) ?_
  refine RW.nil ?_
  refine hQ_8 _ ?_
  refine AW.cond rfl (fun hb_10 => ?_) (fun hb_10 => ?_)
  ·have h := ifT hb_10 h
   refine AW.sa fokW [] ⟨[(4, .ptr 2 0), (5, .d (I 61))], [(2, .var 78 (hbm r0_B mf)), (0, .var 26 [.d (.sl 1 (List.map e3 o0))])], 4, Fr.emp, [], 1⟩ (by kernel_rfl) ?_
   obtain rfl := Option.some.inj h
   exact AW.ret (hR_0 _ (retX (.cons (.agg rfl rfl (Nat.le_of_ble_eq_true rfl)) (.cons (.tmp rfl) .nil)) (.refl _) rfl (by kernel_rfl) (by kernel_rfl)))
  ·have h := ifF hb_10 h
   refine AW.skip ?_
   refine hK_7 _ ?_
   refine AW.sa fokW [] ⟨[(4, .ptr 2 0), (5, .d (I 0))], [(2, .var 78 (hbm r0_B mf)), (0, .var 26 [.d (.sl 1 (List.map e3 o0))])], 4, Fr.emp, [], 1⟩ (by kernel_rfl) ?_
   obtain rfl := Option.some.inj h
   exact AW.ret (hR_0 _ (retX (.cons (.agg rfl rfl (Nat.le_of_ble_eq_true rfl)) (.cons (.tmp rfl) .nil)) (.refl _) rfl (by kernel_rfl) (by kernel_rfl)))
def g76  : Option Unit := some ()
theorem k76  (r : Unit) (h : g76 = some r) : SCall Tryd.prog Gs 76 [] [] 0 Fr.emp (.agg [.d (.fn 107)]) [] 0 Fr.emp := by
 unfold g76 at h
 refine SCall.mkK Tryd.func76 c76 rfl rfl (by kernel_rfl) (fun Q_0 hR_0 hN_0 => ?_)
 refine AW.sa fokW [] ⟨[(0, .ptr 0 0)], [(0, .var 99 [.d (.nilFn)])], 1, Fr.emp, [], 0⟩ (by kernel_rfl) ?_
 refine AW.sa fokW [] ⟨[(0, .ptr 0 0)], [(0, .var 99 [.d (.fn 107)])], 1, Fr.emp, [], 0⟩ (by kernel_rfl) ?_
 obtain rfl := Option.some.inj h
 exact AW.ret (hR_0 _ (retX (.cons (.agg rfl rfl (Nat.le_of_ble_eq_true rfl)) .nil) (.refl _) rfl (by kernel_rfl) (by kernel_rfl)))
def g107 (s : Span) : Option Int := some s.Low
theorem k107 (s : Span) (r : Int) (h : g107 s = some r) : SCall Tryd.prog Gs 107 [.agg [.d (I s.Low), .d (I s.High)]] [] 0 Fr.emp (.d (I r)) [] 0 Fr.emp := by
 unfold g107 at h
 refine SCall.mkK Tryd.func107 c107 rfl rfl (by kernel_rfl) (fun Q_0 hR_0 hN_0 => ?_)
 refine AW.sa fokW [] ⟨[(1, .ptr 0 0)], [(0, .var 35 [.d (I s.Low), .d (I s.High)])], 1, Fr.emp, [], 0⟩ (by kernel_rfl) ?_
 refine AW.sa fokW [] ⟨[(2, .d (I s.Low))], [], 1, Fr.emp, [], 0⟩ (by kernel_rfl) ?_
 obtain rfl := Option.some.inj h
 exact AW.ret (hR_0 _ (retX (.cons (.tmp rfl) .nil) (.refl _) rfl (by kernel_rfl) (by kernel_rfl)))
def g75_7 (cut : (Nat → Int)) : Int → HairHank → Int → Option Int := fun v p n => (ixN 5 v).bind fun j => bif (decide (0 < (cut j))) then ((g107 p.Weight).bind fun r0_1 => (ixN 5 v).bind fun j1 => some (wr (n + (wr (r0_1 - (cut j1)))))) else (some n)
def g75 (b_B : HairBook) (mf : List (Hair_dye × Span)) (cut : (Nat → Int)) : Option Int := (g105).bind fun r0 => bif (false != (((cut 0) == (r0 0)) && (((cut 1) == (r0 1)) && (((cut 2) == (r0 2)) && (((cut 3) == (r0 3)) && (((cut 4) == (r0 4)) && true)))))) then (some 0) else ((eachS (g75_7 cut) b_B.Hanks 0 0).bind fun n => some n)
theorem k75 (b_B : HairBook) (mf : List (Hair_dye × Span)) (cut : (Nat → Int)) (r : Int) (h : g75 b_B mf cut = some r) : SCall Tryd.prog Gs 75 [.agg (hbm b_B mf), .agg (c5 cut), .agg [.d (.fn 107)]] [] 0 Fr.emp (.d (I r)) [] 0 Fr.emp := by
 unfold g75 at h
 refine SCall.mkK Tryd.func75 c75 rfl rfl (by kernel_rfl) (fun Q_0 hR_0 hN_0 => ?_)
 refine AW.sa fokW [] ⟨[(3, .ptr 0 0), (4, .ptr 1 0), (5, .ptr 2 0)], [(2, .var 99 [.d (.fn 107)]), (1, .var 92 (c5 cut)), (0, .var 78 (hbm b_B mf))], 3, Fr.emp, [], 0⟩ (by kernel_rfl) ?_
 refine AW.sa fokW [] ⟨[(3, .ptr 0 0), (4, .ptr 1 0), (5, .ptr 2 0), (7, .d (I 0))], [(2, .var 99 [.d (.fn 107)]), (1, .var 92 (c5 cut)), (0, .var 78 (hbm b_B mf))], 3, Fr.emp, [], 0⟩ (by kernel_rfl) ?_
 refine AW.seqK (fun K_1 hK_1 => ?_)
 refine AW.sdrwK fokW (fun Q_2 hQ_2 => ?_)
 refine RunC.auX 1 ⟨[(3, .ptr 0 0), (4, .ptr 1 0), (5, .ptr 2 0), (7, .d (I 0)), (10, .agg (c5 cut))], [(2, .var 99 [.d (.fn 107)]), (1, .var 92 (c5 cut)), (0, .var 78 (hbm b_B mf))], 3, Fr.emp, [], 0⟩ (by kernel_rfl) ?_
 obtain ⟨r0, hx_3, h⟩ := bsome h
 refine r_call trivial rfl (k105 _ hx_3) rfl rfl ?_
 refine r_aeq trivial rfl rfl rfl rfl ft92 rfl rfl rfl ?_
 refine RunC.fin ⟨[(3, .ptr 0 0), (4, .ptr 1 0), (5, .ptr 2 0), (7, .d (I 0)), (12, .d (.bool (false != (((cut 0) == (r0 0)) && (((cut 1) == (r0 1)) && (((cut 2) == (r0 2)) && (((cut 3) == (r0 3)) && (((cut 4) == (r0 4)) && true))))))))], [(2, .var 99 [.d (.fn 107)]), (1, .var 92 (c5 cut)), (0, .var 78 (hbm b_B mf))], 3, Fr.emp, [], 0⟩ (by kernel_rfl) (by kernel_rfl) ?_
 refine hQ_2 _ ?_
 refine AW.cond rfl (fun hb_4 => ?_) (fun hb_4 => ?_)
 ·have h := ifT hb_4 h
  refine AW.sa fokW [] ⟨[(6, .d (I 0))], [], 3, Fr.emp, [], 0⟩ (by kernel_rfl) ?_
  obtain rfl := Option.some.inj h
  exact AW.ret (hR_0 _ (retX (.cons (.tmp rfl) .nil) (.refl _) rfl (by kernel_rfl) (by kernel_rfl)))
 ·have h := ifF hb_4 h
  refine AW.skip ?_
  refine hK_1 _ ?_
  refine AW.seqK (fun K_5 hK_5 => ?_)
  refine AW.srwK (fun Q_6 hQ_6 => ?_)
  refine RW.au fokW 3 [] ⟨[(4, .ptr 1 0), (5, .ptr 2 0), (7, .d (I 0)), (16, .d (.sl 4 (List.map e58 b_B.Hanks)))], [(2, .var 99 [.d (.fn 107)]), (1, .var 92 (c5 cut))], 3, Fr.emp, [], 0⟩ (by kernel_rfl) ?_
  refine RW.one fokW (r_lenX trivial rfl lenm (r_end ?_))
  refine RW.au fokW 1 [] ⟨[(4, .ptr 1 0), (5, .ptr 2 0), (7, .d (I 0)), (16, .d (.sl 4 (List.map e58 b_B.Hanks))), (17, .d (I (b_B.Hanks.length : Int))), (18, .d (I 0))], [(2, .var 99 [.d (.fn 107)]), (1, .var 92 (c5 cut))], 3, Fr.emp, [], 0⟩ (by kernel_rfl) ?_
  refine RW.nil ?_
  refine hQ_6 _ ?_
  refine AW.block ?_
  refine AW.sln (t := 16) rfl (fun hN_7 => ?_)
  rw [List.length_map] at hN_7
  obtain ⟨out_7, hx_7, h⟩ := bsome h
  refine AW.evSK (fun (v : Int) (n : Int) => ⟨[(4, .ptr 1 0), (5, .ptr 2 0), (7, .d (I n)), (16, .d (.sl 4 (List.map e58 b_B.Hanks))), (17, .d (I (b_B.Hanks.length : Int))), (18, .d (I v))], [(2, .var 99 [.d (.fn 107)]), (1, .var 92 (c5 cut))], 3, Fr.emp, [], 0⟩) (g75_7 cut) hx_7 (Can.kp (by kernel_rfl)) (fun v p n hi_7 hl_7 hp_7 c_7 h K_7 hK_7 => ?_) (fun v n hi_7 hl_7 hout => ?_)
  ·unfold g75_7 at h
   refine AW.sa fokW [] ⟨[(4, .ptr 1 0), (5, .ptr 2 0), (7, .d (I n)), (16, .d (.sl 4 (List.map e58 b_B.Hanks))), (17, .d (I (b_B.Hanks.length : Int))), (18, .d (I v)), (19, .d (.bool (decide (v < (b_B.Hanks.length : Int)))))], [(2, .var 99 [.d (.fn 107)]), (1, .var 92 (c5 cut))], 3, Fr.emp, [], 0⟩ (by kernel_rfl) ?_
   refine AW.seqK (fun K_8 hK_8 => ?_)
   refine AW.cond rfl (fun hb_9 => ?_) (fun hb_9 => False.elim (by have := of_decide_eq_false hb_9; omega))
   refine AW.skip ?_
   refine hK_8 _ ?_
   refine AW.seqK (fun K_10 hK_10 => ?_)
   refine AW.block ?_
   refine AW.srwK (fun Q_11 hQ_11 => ?_)
   refine RW.au fokW 1 [] ⟨[(4, .ptr 1 0), (5, .ptr 2 0), (7, .d (I n)), (16, .d (.sl 4 (List.map e58 b_B.Hanks))), (17, .d (I (b_B.Hanks.length : Int))), (18, .d (I v)), (20, .d (I v))], [(2, .var 99 [.d (.fn 107)]), (1, .var 92 (c5 cut))], 3, Fr.emp, [], 0⟩ (by kernel_rfl) ?_
   refine RW.one fokW (r_iaD trivial rfl rfl hi_7 (row := e58 p) (mapget hp_7) (r_end ?_))
   refine RW.au fokW 4 [] ⟨[(4, .ptr 1 0), (5, .ptr 2 0), (7, .d (I n)), (8, .d (I v)), (9, .ptr 3 0), (16, .d (.sl 4 (List.map e58 b_B.Hanks))), (17, .d (I (b_B.Hanks.length : Int))), (18, .d (I v))], [(3, .var 58 (cv58 p)), (2, .var 99 [.d (.fn 107)]), (1, .var 92 (c5 cut))], 4, Fr.emp, [], 0⟩ (by kernel_rfl) ?_
   refine RW.nil ?_
   refine hQ_11 _ ?_
   refine AW.srwK (fun Q_12 hQ_12 => ?_)
   refine RW.au fokW 1 [] ⟨[(4, .ptr 1 0), (5, .ptr 2 0), (7, .d (I n)), (8, .d (I v)), (9, .ptr 3 0), (16, .d (.sl 4 (List.map e58 b_B.Hanks))), (17, .d (I (b_B.Hanks.length : Int))), (18, .d (I v)), (23, .d (I v))], [(3, .var 58 (cv58 p)), (2, .var 99 [.d (.fn 107)]), (1, .var 92 (c5 cut))], 4, Fr.emp, [], 0⟩ (by kernel_rfl) ?_
   obtain ⟨j, hv_13, h⟩ := bsome h
   refine RW.one fokW (r_iaV trivial rfl rfl rfl (ixN_ok hv_13).1 (ixN_ok hv_13).2.1 (r_end ?_))
   refine RW.one fokW (r_loadV trivial rfl rfl (u := .d (I (cut j))) (agt (f := fun k => .d (I (cut k))) hv_13) (r_end ?_))
   refine RW.au fokW 1 [] ⟨[(4, .ptr 1 0), (5, .ptr 2 0), (7, .d (I n)), (8, .d (I v)), (9, .ptr 3 0), (16, .d (.sl 4 (List.map e58 b_B.Hanks))), (17, .d (I (b_B.Hanks.length : Int))), (18, .d (I v)), (26, .d (.bool (decide (0 < (cut j)))))], [(3, .var 58 (cv58 p)), (2, .var 99 [.d (.fn 107)]), (1, .var 92 (c5 cut))], 4, Fr.emp, [], 0⟩ (by kernel_rfl) ?_
   refine RW.nil ?_
   refine hQ_12 _ ?_
   refine AW.cond rfl (fun hb_14 => ?_) (fun hb_14 => ?_)
   ·have h := ifT hb_14 h
    refine AW.drw fokW ?_
    refine RunC.auX 5 ⟨[(4, .ptr 1 0), (5, .ptr 2 0), (8, .d (I v)), (16, .d (.sl 4 (List.map e58 b_B.Hanks))), (17, .d (I (b_B.Hanks.length : Int))), (18, .d (I v)), (27, .d (I n)), (29, .d (.fn 107)), (31, .agg [.d (I p.Weight.Low), .d (I p.Weight.High)])], [(3, .var 58 (cv58 p)), (2, .var 99 [.d (.fn 107)]), (1, .var 92 (c5 cut))], 4, Fr.emp, [], 0⟩ (by kernel_rfl) ?_
    obtain ⟨r0_1, hx_16, h⟩ := bsome h
    refine r_callvZ (zr := []) trivial rfl (.fn _) (by kernel_rfl) rfl (k107 p.Weight _ hx_16) trivial ⟨.refl _, trivial⟩ rfl rfl rfl rfl ?_
    refine RunC.auX 1 ⟨[(4, .ptr 1 0), (5, .ptr 2 0), (16, .d (.sl 4 (List.map e58 b_B.Hanks))), (17, .d (I (b_B.Hanks.length : Int))), (18, .d (I v)), (27, .d (I n)), (32, .d (I r0_1)), (33, .d (I v))], [(3, .var 58 (cv58 p)), (2, .var 99 [.d (.fn 107)]), (1, .var 92 (c5 cut))], 4, Fr.emp, [], 0⟩ (by kernel_rfl) ?_
    obtain ⟨j1, hv_17, h⟩ := bsome h
    refine r_iaV trivial rfl rfl rfl (ixN_ok hv_17).1 (ixN_ok hv_17).2.1 ?_
    refine r_loadV trivial rfl rfl (u := .d (I (cut j1))) (agt (f := fun k => .d (I (cut k))) hv_17) ?_
    refine RunC.auX 3 ⟨[(4, .ptr 1 0), (5, .ptr 2 0), (7, .d (I (wr (n + (wr (r0_1 - (cut j1))))))), (16, .d (.sl 4 (List.map e58 b_B.Hanks))), (17, .d (I (b_B.Hanks.length : Int))), (18, .d (I v))], [(3, .var 58 (cv58 p)), (2, .var 99 [.d (.fn 107)]), (1, .var 92 (c5 cut))], 4, Fr.emp, [], 0⟩ (by kernel_rfl) ?_
    refine RunC.fin ⟨[(4, .ptr 1 0), (5, .ptr 2 0), (7, .d (I (wr (n + (wr (r0_1 - (cut j1))))))), (16, .d (.sl 4 (List.map e58 b_B.Hanks))), (17, .d (I (b_B.Hanks.length : Int))), (18, .d (I v))], [(2, .var 99 [.d (.fn 107)]), (1, .var 92 (c5 cut))], 4, Fr.emp, [], 0⟩ (by kernel_rfl) (by kernel_rfl) ?_
    refine hK_10 _ ?_
    refine AW.ra fokW [] ⟨[(4, .ptr 1 0), (5, .ptr 2 0), (7, .d (I (wr (n + (wr (r0_1 - (cut j1))))))), (16, .d (.sl 4 (List.map e58 b_B.Hanks))), (17, .d (I (b_B.Hanks.length : Int))), (18, .d (I (wr (v + 1))))], [(2, .var 99 [.d (.fn 107)]), (1, .var 92 (c5 cut))], 4, Fr.emp, [], 0⟩ (by kernel_rfl) ?_
    obtain rfl := Option.some.inj h
    have ew : wr (v + 1) = v + 1 := inext (N := (b_B.Hanks.length : Int)) (by omega) (by omega) (by omega)
    rw [ew]
    exact hK_7 _ (Can.kp (by kernel_rfl))
   ·have h := ifF hb_14 h
    refine AW.skip ?_
    refine hK_10 _ ?_
    refine AW.ra fokW [] ⟨[(4, .ptr 1 0), (5, .ptr 2 0), (7, .d (I n)), (16, .d (.sl 4 (List.map e58 b_B.Hanks))), (17, .d (I (b_B.Hanks.length : Int))), (18, .d (I (wr (v + 1))))], [(2, .var 99 [.d (.fn 107)]), (1, .var 92 (c5 cut))], 4, Fr.emp, [], 0⟩ (by kernel_rfl) ?_
    obtain rfl := Option.some.inj h
    have ew : wr (v + 1) = v + 1 := inext (N := (b_B.Hanks.length : Int)) (by omega) (by omega) (by omega)
    rw [ew]
    exact hK_7 _ (Can.kp (by kernel_rfl))
  ·subst hout
   refine AW.sa fokW [] ⟨[(4, .ptr 1 0), (5, .ptr 2 0), (7, .d (I n)), (16, .d (.sl 4 (List.map e58 b_B.Hanks))), (17, .d (I (b_B.Hanks.length : Int))), (18, .d (I v)), (19, .d (.bool (decide (v < (b_B.Hanks.length : Int)))))], [(2, .var 99 [.d (.fn 107)]), (1, .var 92 (c5 cut))], 3, Fr.emp, [], 0⟩ (by kernel_rfl) ?_
   refine AW.seqK (fun K_18 hK_18 => ?_)
   refine AW.cond rfl (fun hb_19 => False.elim (by have := of_decide_eq_true hb_19; omega)) (fun hb_19 => ?_)
   refine AW.exit ?_
   refine hK_5 _ ?_
   refine AW.sa fokW [] ⟨[(6, .d (I n))], [], 3, Fr.emp, [], 0⟩ (by kernel_rfl) ?_
   obtain rfl := Option.some.inj h
   exact AW.ret (hR_0 _ (retX (.cons (.tmp rfl) .nil) (.refl _) rfl (by kernel_rfl) (by kernel_rfl)))
def g77  : Option Unit := some ()
theorem k77  (r : Unit) (h : g77 = some r) : SCall Tryd.prog Gs 77 [] [] 0 Fr.emp (.agg [.d (.fn 108)]) [] 0 Fr.emp := by
 unfold g77 at h
 refine SCall.mkK Tryd.func77 c77 rfl rfl (by kernel_rfl) (fun Q_0 hR_0 hN_0 => ?_)
 refine AW.sa fokW [] ⟨[(0, .ptr 0 0)], [(0, .var 99 [.d (.nilFn)])], 1, Fr.emp, [], 0⟩ (by kernel_rfl) ?_
 refine AW.sa fokW [] ⟨[(0, .ptr 0 0)], [(0, .var 99 [.d (.fn 108)])], 1, Fr.emp, [], 0⟩ (by kernel_rfl) ?_
 obtain rfl := Option.some.inj h
 exact AW.ret (hR_0 _ (retX (.cons (.agg rfl rfl (Nat.le_of_ble_eq_true rfl)) .nil) (.refl _) rfl (by kernel_rfl) (by kernel_rfl)))
def g108 (s : Span) : Option Int := some s.High
theorem k108 (s : Span) (r : Int) (h : g108 s = some r) : SCall Tryd.prog Gs 108 [.agg [.d (I s.Low), .d (I s.High)]] [] 0 Fr.emp (.d (I r)) [] 0 Fr.emp := by
 unfold g108 at h
 refine SCall.mkK Tryd.func108 c108 rfl rfl (by kernel_rfl) (fun Q_0 hR_0 hN_0 => ?_)
 refine AW.sa fokW [] ⟨[(1, .ptr 0 0)], [(0, .var 35 [.d (I s.Low), .d (I s.High)])], 1, Fr.emp, [], 0⟩ (by kernel_rfl) ?_
 refine AW.sa fokW [] ⟨[(2, .d (I s.High))], [], 1, Fr.emp, [], 0⟩ (by kernel_rfl) ?_
 obtain rfl := Option.some.inj h
 exact AW.ret (hR_0 _ (retX (.cons (.tmp rfl) .nil) (.refl _) rfl (by kernel_rfl) (by kernel_rfl)))
def g75a_7 (cut : (Nat → Int)) : Int → HairHank → Int → Option Int := fun v p n => (ixN 5 v).bind fun j => bif (decide (0 < (cut j))) then ((g108 p.Weight).bind fun r0_1 => (ixN 5 v).bind fun j1 => some (wr (n + (wr (r0_1 - (cut j1)))))) else (some n)
def g75a (b_B : HairBook) (mf : List (Hair_dye × Span)) (cut : (Nat → Int)) : Option Int := (g105).bind fun r0 => bif (false != (((cut 0) == (r0 0)) && (((cut 1) == (r0 1)) && (((cut 2) == (r0 2)) && (((cut 3) == (r0 3)) && (((cut 4) == (r0 4)) && true)))))) then (some 0) else ((eachS (g75a_7 cut) b_B.Hanks 0 0).bind fun n => some n)
theorem k75a (b_B : HairBook) (mf : List (Hair_dye × Span)) (cut : (Nat → Int)) (r : Int) (h : g75a b_B mf cut = some r) : SCall Tryd.prog Gs 75 [.agg (hbm b_B mf), .agg (c5 cut), .agg [.d (.fn 108)]] [] 0 Fr.emp (.d (I r)) [] 0 Fr.emp := by
 unfold g75a at h
 refine SCall.mkK Tryd.func75 c75 rfl rfl (by kernel_rfl) (fun Q_0 hR_0 hN_0 => ?_)
 refine AW.sa fokW [] ⟨[(3, .ptr 0 0), (4, .ptr 1 0), (5, .ptr 2 0)], [(2, .var 99 [.d (.fn 108)]), (1, .var 92 (c5 cut)), (0, .var 78 (hbm b_B mf))], 3, Fr.emp, [], 0⟩ (by kernel_rfl) ?_
 refine AW.sa fokW [] ⟨[(3, .ptr 0 0), (4, .ptr 1 0), (5, .ptr 2 0), (7, .d (I 0))], [(2, .var 99 [.d (.fn 108)]), (1, .var 92 (c5 cut)), (0, .var 78 (hbm b_B mf))], 3, Fr.emp, [], 0⟩ (by kernel_rfl) ?_
 refine AW.seqK (fun K_1 hK_1 => ?_)
 refine AW.sdrwK fokW (fun Q_2 hQ_2 => ?_)
 refine RunC.auX 1 ⟨[(3, .ptr 0 0), (4, .ptr 1 0), (5, .ptr 2 0), (7, .d (I 0)), (10, .agg (c5 cut))], [(2, .var 99 [.d (.fn 108)]), (1, .var 92 (c5 cut)), (0, .var 78 (hbm b_B mf))], 3, Fr.emp, [], 0⟩ (by kernel_rfl) ?_
 obtain ⟨r0, hx_3, h⟩ := bsome h
 refine r_call trivial rfl (k105 _ hx_3) rfl rfl ?_
 refine r_aeq trivial rfl rfl rfl rfl ft92 rfl rfl rfl ?_
 refine RunC.fin ⟨[(3, .ptr 0 0), (4, .ptr 1 0), (5, .ptr 2 0), (7, .d (I 0)), (12, .d (.bool (false != (((cut 0) == (r0 0)) && (((cut 1) == (r0 1)) && (((cut 2) == (r0 2)) && (((cut 3) == (r0 3)) && (((cut 4) == (r0 4)) && true))))))))], [(2, .var 99 [.d (.fn 108)]), (1, .var 92 (c5 cut)), (0, .var 78 (hbm b_B mf))], 3, Fr.emp, [], 0⟩ (by kernel_rfl) (by kernel_rfl) ?_
 refine hQ_2 _ ?_
 refine AW.cond rfl (fun hb_4 => ?_) (fun hb_4 => ?_)
 ·have h := ifT hb_4 h
  refine AW.sa fokW [] ⟨[(6, .d (I 0))], [], 3, Fr.emp, [], 0⟩ (by kernel_rfl) ?_
  obtain rfl := Option.some.inj h
  exact AW.ret (hR_0 _ (retX (.cons (.tmp rfl) .nil) (.refl _) rfl (by kernel_rfl) (by kernel_rfl)))
 ·have h := ifF hb_4 h
  refine AW.skip ?_
  refine hK_1 _ ?_
  refine AW.seqK (fun K_5 hK_5 => ?_)
  refine AW.srwK (fun Q_6 hQ_6 => ?_)
  refine RW.au fokW 3 [] ⟨[(4, .ptr 1 0), (5, .ptr 2 0), (7, .d (I 0)), (16, .d (.sl 4 (List.map e58 b_B.Hanks)))], [(2, .var 99 [.d (.fn 108)]), (1, .var 92 (c5 cut))], 3, Fr.emp, [], 0⟩ (by kernel_rfl) ?_
  refine RW.one fokW (r_lenX trivial rfl lenm (r_end ?_))
  refine RW.au fokW 1 [] ⟨[(4, .ptr 1 0), (5, .ptr 2 0), (7, .d (I 0)), (16, .d (.sl 4 (List.map e58 b_B.Hanks))), (17, .d (I (b_B.Hanks.length : Int))), (18, .d (I 0))], [(2, .var 99 [.d (.fn 108)]), (1, .var 92 (c5 cut))], 3, Fr.emp, [], 0⟩ (by kernel_rfl) ?_
  refine RW.nil ?_
  refine hQ_6 _ ?_
  refine AW.block ?_
  refine AW.sln (t := 16) rfl (fun hN_7 => ?_)
  rw [List.length_map] at hN_7
  obtain ⟨out_7, hx_7, h⟩ := bsome h
  refine AW.evSK (fun (v : Int) (n : Int) => ⟨[(4, .ptr 1 0), (5, .ptr 2 0), (7, .d (I n)), (16, .d (.sl 4 (List.map e58 b_B.Hanks))), (17, .d (I (b_B.Hanks.length : Int))), (18, .d (I v))], [(2, .var 99 [.d (.fn 108)]), (1, .var 92 (c5 cut))], 3, Fr.emp, [], 0⟩) (g75a_7 cut) hx_7 (Can.kp (by kernel_rfl)) (fun v p n hi_7 hl_7 hp_7 c_7 h K_7 hK_7 => ?_) (fun v n hi_7 hl_7 hout => ?_)
  ·unfold g75a_7 at h
   refine AW.sa fokW [] ⟨[(4, .ptr 1 0), (5, .ptr 2 0), (7, .d (I n)), (16, .d (.sl 4 (List.map e58 b_B.Hanks))), (17, .d (I (b_B.Hanks.length : Int))), (18, .d (I v)), (19, .d (.bool (decide (v < (b_B.Hanks.length : Int)))))], [(2, .var 99 [.d (.fn 108)]), (1, .var 92 (c5 cut))], 3, Fr.emp, [], 0⟩ (by kernel_rfl) ?_
   refine AW.seqK (fun K_8 hK_8 => ?_)
   refine AW.cond rfl (fun hb_9 => ?_) (fun hb_9 => False.elim (by have := of_decide_eq_false hb_9; omega))
   refine AW.skip ?_
   refine hK_8 _ ?_
   refine AW.seqK (fun K_10 hK_10 => ?_)
   refine AW.block ?_
   refine AW.srwK (fun Q_11 hQ_11 => ?_)
   refine RW.au fokW 1 [] ⟨[(4, .ptr 1 0), (5, .ptr 2 0), (7, .d (I n)), (16, .d (.sl 4 (List.map e58 b_B.Hanks))), (17, .d (I (b_B.Hanks.length : Int))), (18, .d (I v)), (20, .d (I v))], [(2, .var 99 [.d (.fn 108)]), (1, .var 92 (c5 cut))], 3, Fr.emp, [], 0⟩ (by kernel_rfl) ?_
   refine RW.one fokW (r_iaD trivial rfl rfl hi_7 (row := e58 p) (mapget hp_7) (r_end ?_))
   refine RW.au fokW 4 [] ⟨[(4, .ptr 1 0), (5, .ptr 2 0), (7, .d (I n)), (8, .d (I v)), (9, .ptr 3 0), (16, .d (.sl 4 (List.map e58 b_B.Hanks))), (17, .d (I (b_B.Hanks.length : Int))), (18, .d (I v))], [(3, .var 58 (cv58 p)), (2, .var 99 [.d (.fn 108)]), (1, .var 92 (c5 cut))], 4, Fr.emp, [], 0⟩ (by kernel_rfl) ?_
   refine RW.nil ?_
   refine hQ_11 _ ?_
   refine AW.srwK (fun Q_12 hQ_12 => ?_)
   refine RW.au fokW 1 [] ⟨[(4, .ptr 1 0), (5, .ptr 2 0), (7, .d (I n)), (8, .d (I v)), (9, .ptr 3 0), (16, .d (.sl 4 (List.map e58 b_B.Hanks))), (17, .d (I (b_B.Hanks.length : Int))), (18, .d (I v)), (23, .d (I v))], [(3, .var 58 (cv58 p)), (2, .var 99 [.d (.fn 108)]), (1, .var 92 (c5 cut))], 4, Fr.emp, [], 0⟩ (by kernel_rfl) ?_
   obtain ⟨j, hv_13, h⟩ := bsome h
   refine RW.one fokW (r_iaV trivial rfl rfl rfl (ixN_ok hv_13).1 (ixN_ok hv_13).2.1 (r_end ?_))
   refine RW.one fokW (r_loadV trivial rfl rfl (u := .d (I (cut j))) (agt (f := fun k => .d (I (cut k))) hv_13) (r_end ?_))
   refine RW.au fokW 1 [] ⟨[(4, .ptr 1 0), (5, .ptr 2 0), (7, .d (I n)), (8, .d (I v)), (9, .ptr 3 0), (16, .d (.sl 4 (List.map e58 b_B.Hanks))), (17, .d (I (b_B.Hanks.length : Int))), (18, .d (I v)), (26, .d (.bool (decide (0 < (cut j)))))], [(3, .var 58 (cv58 p)), (2, .var 99 [.d (.fn 108)]), (1, .var 92 (c5 cut))], 4, Fr.emp, [], 0⟩ (by kernel_rfl) ?_
   refine RW.nil ?_
   refine hQ_12 _ ?_
   refine AW.cond rfl (fun hb_14 => ?_) (fun hb_14 => ?_)
   ·have h := ifT hb_14 h
    refine AW.drw fokW ?_
    refine RunC.auX 5 ⟨[(4, .ptr 1 0), (5, .ptr 2 0), (8, .d (I v)), (16, .d (.sl 4 (List.map e58 b_B.Hanks))), (17, .d (I (b_B.Hanks.length : Int))), (18, .d (I v)), (27, .d (I n)), (29, .d (.fn 108)), (31, .agg [.d (I p.Weight.Low), .d (I p.Weight.High)])], [(3, .var 58 (cv58 p)), (2, .var 99 [.d (.fn 108)]), (1, .var 92 (c5 cut))], 4, Fr.emp, [], 0⟩ (by kernel_rfl) ?_
    obtain ⟨r0_1, hx_16, h⟩ := bsome h
    refine r_callvZ (zr := []) trivial rfl (.fn _) (by kernel_rfl) rfl (k108 p.Weight _ hx_16) trivial ⟨.refl _, trivial⟩ rfl rfl rfl rfl ?_
    refine RunC.auX 1 ⟨[(4, .ptr 1 0), (5, .ptr 2 0), (16, .d (.sl 4 (List.map e58 b_B.Hanks))), (17, .d (I (b_B.Hanks.length : Int))), (18, .d (I v)), (27, .d (I n)), (32, .d (I r0_1)), (33, .d (I v))], [(3, .var 58 (cv58 p)), (2, .var 99 [.d (.fn 108)]), (1, .var 92 (c5 cut))], 4, Fr.emp, [], 0⟩ (by kernel_rfl) ?_
    obtain ⟨j1, hv_17, h⟩ := bsome h
    refine r_iaV trivial rfl rfl rfl (ixN_ok hv_17).1 (ixN_ok hv_17).2.1 ?_
    refine r_loadV trivial rfl rfl (u := .d (I (cut j1))) (agt (f := fun k => .d (I (cut k))) hv_17) ?_
    refine RunC.auX 3 ⟨[(4, .ptr 1 0), (5, .ptr 2 0), (7, .d (I (wr (n + (wr (r0_1 - (cut j1))))))), (16, .d (.sl 4 (List.map e58 b_B.Hanks))), (17, .d (I (b_B.Hanks.length : Int))), (18, .d (I v))], [(3, .var 58 (cv58 p)), (2, .var 99 [.d (.fn 108)]), (1, .var 92 (c5 cut))], 4, Fr.emp, [], 0⟩ (by kernel_rfl) ?_
    refine RunC.fin ⟨[(4, .ptr 1 0), (5, .ptr 2 0), (7, .d (I (wr (n + (wr (r0_1 - (cut j1))))))), (16, .d (.sl 4 (List.map e58 b_B.Hanks))), (17, .d (I (b_B.Hanks.length : Int))), (18, .d (I v))], [(2, .var 99 [.d (.fn 108)]), (1, .var 92 (c5 cut))], 4, Fr.emp, [], 0⟩ (by kernel_rfl) (by kernel_rfl) ?_
    refine hK_10 _ ?_
    refine AW.ra fokW [] ⟨[(4, .ptr 1 0), (5, .ptr 2 0), (7, .d (I (wr (n + (wr (r0_1 - (cut j1))))))), (16, .d (.sl 4 (List.map e58 b_B.Hanks))), (17, .d (I (b_B.Hanks.length : Int))), (18, .d (I (wr (v + 1))))], [(2, .var 99 [.d (.fn 108)]), (1, .var 92 (c5 cut))], 4, Fr.emp, [], 0⟩ (by kernel_rfl) ?_
    obtain rfl := Option.some.inj h
    have ew : wr (v + 1) = v + 1 := inext (N := (b_B.Hanks.length : Int)) (by omega) (by omega) (by omega)
    rw [ew]
    exact hK_7 _ (Can.kp (by kernel_rfl))
   ·have h := ifF hb_14 h
    refine AW.skip ?_
    refine hK_10 _ ?_
    refine AW.ra fokW [] ⟨[(4, .ptr 1 0), (5, .ptr 2 0), (7, .d (I n)), (16, .d (.sl 4 (List.map e58 b_B.Hanks))), (17, .d (I (b_B.Hanks.length : Int))), (18, .d (I (wr (v + 1))))], [(2, .var 99 [.d (.fn 108)]), (1, .var 92 (c5 cut))], 4, Fr.emp, [], 0⟩ (by kernel_rfl) ?_
    obtain rfl := Option.some.inj h
    have ew : wr (v + 1) = v + 1 := inext (N := (b_B.Hanks.length : Int)) (by omega) (by omega) (by omega)
    rw [ew]
    exact hK_7 _ (Can.kp (by kernel_rfl))
  ·subst hout
   refine AW.sa fokW [] ⟨[(4, .ptr 1 0), (5, .ptr 2 0), (7, .d (I n)), (16, .d (.sl 4 (List.map e58 b_B.Hanks))), (17, .d (I (b_B.Hanks.length : Int))), (18, .d (I v)), (19, .d (.bool (decide (v < (b_B.Hanks.length : Int)))))], [(2, .var 99 [.d (.fn 108)]), (1, .var 92 (c5 cut))], 3, Fr.emp, [], 0⟩ (by kernel_rfl) ?_
   refine AW.seqK (fun K_18 hK_18 => ?_)
   refine AW.cond rfl (fun hb_19 => False.elim (by have := of_decide_eq_true hb_19; omega)) (fun hb_19 => ?_)
   refine AW.exit ?_
   refine hK_5 _ ?_
   refine AW.sa fokW [] ⟨[(6, .d (I n))], [], 3, Fr.emp, [], 0⟩ (by kernel_rfl) ?_
   obtain rfl := Option.some.inj h
   exact AW.ret (hR_0 _ (retX (.cons (.tmp rfl) .nil) (.refl _) rfl (by kernel_rfl) (by kernel_rfl)))
def g23 (x : HairBook) (plan : (List Int)) : Option (Span × Int) := (g55c x plan).bind fun r_15 => match r_15 with | .next (r0_B4, r1_1) => (must (decide (r1_1 ≠ 0))).bind fun _ => some ((Span.mk 0 0), r1_1) | .brk (r0_B5, mf2, r1_2) => bif (decide (r1_2 ≠ 0)) then (some ((Span.mk 0 0), r1_2)) else ((g71 r0_B5 mf2 plan).bind fun r0_3 => (g76).bind fun _ => (g75 r0_B5 mf2 r0_3).bind fun r0_3_1 => (g77).bind fun _ => (g75a r0_B5 mf2 r0_3).bind fun r0_3_2 => some ((Span.mk r0_3_1 r0_3_2), 0))
theorem k23 (x : HairBook) (plan : (List Int)) (r : Span × Int) (h : g23 x plan = some r) : SCall Tryd.prog Gs 23 [.agg (cv25 x), .d (.sl 1 (List.map e3 plan))] [] 0 Fr.emp (match r with | (r0_2, r1_4) => .tup [.agg [.d (I r0_2.Low), .d (I r0_2.High)], .d (I r1_4)]) [] 0 Fr.emp := by
 unfold g23 at h
 refine SCall.mkK Tryd.func23 c23 rfl rfl (by kernel_rfl) (fun Q_0 hR_0 hN_0 => ?_)
 refine AW.sa fokW [] ⟨[(2, .ptr 0 0), (3, .ptr 1 0), (4, .ptr 2 0)], [(2, .var 35 [.d (I 0), .d (I 0)]), (1, .var 26 [.d (.sl 1 (List.map e3 plan))]), (0, .var 25 (cv25 x))], 3, Fr.emp, [], 0⟩ (by kernel_rfl) ?_
 refine AW.srwK (fun Q_1 hQ_1 => ?_)
 refine RW.au fokW 2 [] ⟨[(3, .ptr 1 0), (4, .ptr 2 0), (10, .agg (cv25 x)), (11, .clo 74 [] [.ptr 1 0])], [(2, .var 35 [.d (I 0), .d (I 0)]), (1, .var 26 [.d (.sl 1 (List.map e3 plan))])], 3, Fr.emp, [], 0⟩ (by kernel_rfl) ?_
 obtain ⟨r_15, hx_2, h⟩ := bsome h
 rcases r_15 with (⟨r0_B4, r1_1⟩ | (⟨r0_B5, mf2, r1_2⟩))
 ·refine RW.one fokW (r_callS (zr := []) [1] trivial rfl (k55c x plan _ hx_2) ⟨rfl, trivial⟩ rfl rfl ⟨.refl _, .refl _, trivial⟩ rfl rfl rfl (r_end ?_))
  obtain ⟨_, hv_3, h⟩ := bsome h
  have hf_4 := must_ok hv_3
  refine RW.au fokW 6 [] ⟨[(3, .ptr 1 0), (4, .ptr 2 0), (6, .ptr 3 0), (7, .d (I r1_1))], [(3, .var 78 (catV (cv25 r0_B4) [.d (.nilMap)])), (1, .var 26 [.d (.sl 1 (List.map e3 plan))]), (2, .var 35 [.d (I 0), .d (I 0)])], 4, Fr.emp, [], 0⟩ (by kernel_rfl) ?_
  refine RW.nil ?_
  refine hQ_1 _ ?_
  refine AW.seqK (fun K_5 hK_5 => ?_)
  refine AW.sa fokW [] ⟨[(3, .ptr 1 0), (4, .ptr 2 0), (6, .ptr 3 0), (7, .d (I r1_1)), (16, .d (.bool (decide (r1_1 ≠ 0))))], [(3, .var 78 (catV (cv25 r0_B4) [.d (.nilMap)])), (1, .var 26 [.d (.sl 1 (List.map e3 plan))]), (2, .var 35 [.d (I 0), .d (I 0)])], 4, Fr.emp, [], 0⟩ (by kernel_rfl) ?_
  refine AW.cond rfl (fun hb_6 => ?_) (fun hb_6 => False.elim (by rw [hf_4] at hb_6; cases hb_6))
  refine AW.sa fokW [] ⟨[(4, .ptr 2 0), (5, .d (I r1_1))], [(2, .var 35 [.d (I 0), .d (I 0)])], 4, Fr.emp, [], 0⟩ (by kernel_rfl) ?_
  obtain rfl := Option.some.inj h
  exact AW.ret (hR_0 _ (retX (.cons (.agg rfl rfl (Nat.le_of_ble_eq_true rfl)) (.cons (.tmp rfl) .nil)) (.refl _) rfl (by kernel_rfl) (by kernel_rfl)))
 ·refine RW.one fokW (r_callS (zr := []) [1] trivial rfl (k55c x plan _ hx_2) ⟨rfl, trivial⟩ rfl rfl ⟨.refl _, .refl _, trivial⟩ rfl rfl rfl (r_end ?_))
  refine RW.au fokW 6 [] ⟨[(3, .ptr 1 0), (4, .ptr 2 0), (6, .ptr 3 0), (7, .d (I r1_2))], [(3, .var 78 (hbm r0_B5 mf2)), (1, .var 26 [.d (.sl 1 (List.map e3 plan))]), (2, .var 35 [.d (I 0), .d (I 0)])], 4, Fr.emp, [], 0⟩ (by kernel_rfl) ?_
  refine RW.nil ?_
  refine hQ_1 _ ?_
  refine AW.seqK (fun K_7 hK_7 => ?_)
  refine AW.sa fokW [] ⟨[(3, .ptr 1 0), (4, .ptr 2 0), (6, .ptr 3 0), (7, .d (I r1_2)), (16, .d (.bool (decide (r1_2 ≠ 0))))], [(3, .var 78 (hbm r0_B5 mf2)), (1, .var 26 [.d (.sl 1 (List.map e3 plan))]), (2, .var 35 [.d (I 0), .d (I 0)])], 4, Fr.emp, [], 0⟩ (by kernel_rfl) ?_
  refine AW.cond rfl (fun hb_8 => ?_) (fun hb_8 => ?_)
  ·have h := ifT hb_8 h
   refine AW.sa fokW [] ⟨[(4, .ptr 2 0), (5, .d (I r1_2))], [(2, .var 35 [.d (I 0), .d (I 0)])], 4, Fr.emp, [], 0⟩ (by kernel_rfl) ?_
   obtain rfl := Option.some.inj h
   exact AW.ret (hR_0 _ (retX (.cons (.agg rfl rfl (Nat.le_of_ble_eq_true rfl)) (.cons (.tmp rfl) .nil)) (.refl _) rfl (by kernel_rfl) (by kernel_rfl)))
  ·have h := ifF hb_8 h
   refine AW.skip ?_
   refine hK_7 _ ?_
   refine AW.srwK (fun Q_9 hQ_9 => ?_)
   refine RW.au fokW 2 [] ⟨[(4, .ptr 2 0), (6, .ptr 3 0), (19, .agg (hbm r0_B5 mf2)), (20, .d (.sl 1 (List.map e3 plan)))], [(3, .var 78 (hbm r0_B5 mf2)), (2, .var 35 [.d (I 0), .d (I 0)])], 4, Fr.emp, [], 0⟩ (by kernel_rfl) ?_
   obtain ⟨r0_3, hx_10, h⟩ := bsome h
   refine RW.one fokW (r_call trivial rfl (k71 r0_B5 mf2 plan _ hx_10) rfl rfl (r_end ?_))
   refine RW.au fokW 2 [] ⟨[(4, .ptr 2 0), (6, .ptr 3 0), (8, .ptr 4 0)], [(4, .var 92 (c5 r0_3)), (3, .var 78 (hbm r0_B5 mf2)), (2, .var 35 [.d (I 0), .d (I 0)])], 5, Fr.emp, [], 0⟩ (by kernel_rfl) ?_
   refine RW.nil ?_
   refine hQ_9 _ ?_
   refine AW.sdrwK fokW (fun Q_11 hQ_11 => ?_)
   refine RunC.auX 2 ⟨[(4, .ptr 2 0), (6, .ptr 3 0), (8, .ptr 4 0), (22, .agg (hbm r0_B5 mf2)), (23, .agg (c5 r0_3))], [(4, .var 92 (c5 r0_3)), (3, .var 78 (hbm r0_B5 mf2)), (2, .var 35 [.d (I 0), .d (I 0)])], 5, Fr.emp, [], 0⟩ (by kernel_rfl) ?_
   obtain ⟨⟨⟩, hx_12, h⟩ := bsome h
   refine r_call trivial rfl (k76 _ hx_12) rfl rfl ?_
   obtain ⟨r0_3_1, hx_13, h⟩ := bsome h
   refine r_call trivial rfl (k75 r0_B5 mf2 r0_3 _ hx_13) rfl rfl ?_
   refine RunC.auX 2 ⟨[(4, .ptr 2 0), (25, .d (I r0_3_1)), (26, .agg (hbm r0_B5 mf2)), (27, .agg (c5 r0_3))], [(4, .var 92 (c5 r0_3)), (3, .var 78 (hbm r0_B5 mf2)), (2, .var 35 [.d (I 0), .d (I 0)])], 5, Fr.emp, [], 0⟩ (by kernel_rfl) ?_
   obtain ⟨⟨⟩, hx_14, h⟩ := bsome h
   refine r_call trivial rfl (k77 _ hx_14) rfl rfl ?_
   obtain ⟨r0_3_2, hx_15, h⟩ := bsome h
   refine r_call trivial rfl (k75a r0_B5 mf2 r0_3 _ hx_15) rfl rfl ?_
   refine RunC.auX 3 ⟨[(4, .ptr 2 0), (5, .d (I 0))], [(2, .var 35 [.d (I r0_3_1), .d (I r0_3_2)]), (4, .var 92 (c5 r0_3)), (3, .var 78 (hbm r0_B5 mf2))], 5, Fr.emp, [], 0⟩ (by kernel_rfl) ?_
   refine RunC.fin ⟨[(4, .ptr 2 0), (5, .d (I 0))], [(2, .var 35 [.d (I r0_3_1), .d (I r0_3_2)])], 5, Fr.emp, [], 0⟩ (by kernel_rfl) (by kernel_rfl) ?_
   refine hQ_11 _ ?_
   obtain rfl := Option.some.inj h
   exact AW.ret (hR_0 _ (retX (.cons (.agg rfl rfl (Nat.le_of_ble_eq_true rfl)) (.cons (.tmp rfl) .nil)) (.refl _) rfl (by kernel_rfl) (by kernel_rfl)))
def g40 (n : Int) : Option Span := some (Span.mk n n)
theorem k40 (n : Int) (r : Span) (h : g40 n = some r) : SCall Tryd.prog Gs 40 [.d (I n)] [] 0 Fr.emp (.agg [.d (I r.Low), .d (I r.High)]) [] 0 Fr.emp := by
 unfold g40 at h
 refine SCall.mkK Tryd.func40 c40 rfl rfl (by kernel_rfl) (fun Q_0 hR_0 hN_0 => ?_)
 refine AW.sa fokW [] ⟨[(0, .d (I n)), (2, .ptr 0 0)], [(0, .var 35 [.d (I 0), .d (I 0)])], 1, Fr.emp, [], 0⟩ (by kernel_rfl) ?_
 refine AW.sa fokW [] ⟨[(2, .ptr 0 0)], [(0, .var 35 [.d (I n), .d (I n)])], 1, Fr.emp, [], 0⟩ (by kernel_rfl) ?_
 obtain rfl := Option.some.inj h
 exact AW.ret (hR_0 _ (retX (.cons (.agg rfl rfl (Nat.le_of_ble_eq_true rfl)) .nil) (.refl _) rfl (by kernel_rfl) (by kernel_rfl)))
def g96_2 (n : Int) : Int → Int → Unit → Option (Ctl (Unit) (Int)) := fun i p _ => bif (decide (p = n)) then (some (.brk i)) else (some (.next ()))
def g96 (l : (List Int)) (n : Int) : Option Int := bindC (eachC (g96_2 n) l 0 ()) fun _ => some (-1)
theorem k96 (l : (List Int)) (n : Int) (r : Int) (h : g96 l n = some r) : SCall Tryd.prog Gs 96 [.d (.sl 1 (List.map e3 l)), .d (I n)] [] 0 Fr.emp (.d (I r)) [] 0 Fr.emp := by
 unfold g96 at h
 refine SCall.mkK Tryd.func96 c96 rfl rfl (by kernel_rfl) (fun Q_0 hR_0 hN_0 => ?_)
 refine AW.sa fokW [] ⟨[(0, .d (.sl 1 (List.map e3 l))), (1, .d (I n))], [], 0, Fr.emp, [], 0⟩ (by kernel_rfl) ?_
 refine AW.seqK (fun K_1 hK_1 => ?_)
 refine AW.sa fokW [] ⟨[(0, .d (.sl 1 (List.map e3 l))), (1, .d (I n)), (5, .d (I 0))], [], 0, Fr.emp, [], 0⟩ (by kernel_rfl) ?_
 refine AW.block ?_
 refine AW.sln (t := 0) rfl (fun hN_2 => ?_)
 rw [List.length_map] at hN_2
 obtain ⟨out_2, hx_2, hk_2⟩ := bsomeC h
 refine AW.evCK (fun (i : Int) (_ : Unit) => ⟨[(0, .d (.sl 1 (List.map e3 l))), (1, .d (I n)), (5, .d (I i))], [], 0, Fr.emp, [], 0⟩) (g96_2 n) hx_2 (Can.kp (by kernel_rfl)) (fun i p s_2 hi_2 hl_2 hp_2 c_2 h hb_2 K_2 hK_2 => ?_) (fun i s_2 hi_2 hl_2 hout => ?_)
 ·unfold g96_2 at h
  refine AW.seqK (fun K_3 hK_3 => ?_)
  refine AW.srwK (fun Q_4 hQ_4 => ?_)
  refine RW.au fokW 2 [] ⟨[(0, .d (.sl 1 (List.map e3 l))), (1, .d (I n)), (5, .d (I i)), (6, .d (I i)), (7, .d (.sl 1 (List.map e3 l)))], [], 0, Fr.emp, [], 0⟩ (by kernel_rfl) ?_
  refine RW.one fokW (r_lenX trivial rfl lenm (r_end ?_))
  refine RW.au fokW 1 [] ⟨[(0, .d (.sl 1 (List.map e3 l))), (1, .d (I n)), (5, .d (I i)), (9, .d (.bool (decide (i < (l.length : Int)))))], [], 0, Fr.emp, [], 0⟩ (by kernel_rfl) ?_
  refine RW.nil ?_
  refine hQ_4 _ ?_
  refine AW.cond rfl (fun hb_5 => ?_) (fun hb_5 => False.elim (by have := of_decide_eq_false hb_5; omega))
  refine AW.skip ?_
  refine hK_3 _ ?_
  refine AW.seqK (fun K_6 hK_6 => ?_)
  refine AW.block ?_
  refine AW.srwK (fun Q_7 hQ_7 => ?_)
  refine RW.au fokW 2 [] ⟨[(0, .d (.sl 1 (List.map e3 l))), (1, .d (I n)), (5, .d (I i)), (12, .d (.sl 1 (List.map e3 l))), (13, .d (I i))], [], 0, Fr.emp, [], 0⟩ (by kernel_rfl) ?_
  refine RW.one fokW (r_iaD trivial rfl rfl hi_2 (row := e3 p) (mapget hp_2) (r_end ?_))
  refine RW.au fokW 3 [] ⟨[(0, .d (.sl 1 (List.map e3 l))), (1, .d (I n)), (5, .d (I i)), (17, .d (.bool (decide (p = n))))], [], 0, Fr.emp, [], 0⟩ (by kernel_rfl) ?_
  refine RW.nil ?_
  refine hQ_7 _ ?_
  refine AW.cond rfl (fun hb_8 => ?_) (fun hb_8 => ?_)
  ·have h := ifT hb_8 h
   refine AW.sa fokW [] ⟨[(4, .d (I i))], [], 0, Fr.emp, [], 0⟩ (by kernel_rfl) ?_
   obtain rfl := Option.some.inj h
   have e_1 := hb_2 _ rfl
   subst e_1
   obtain rfl := Aft.bk hk_2
   exact AW.ret (hR_0 _ (retX (.cons (.tmp rfl) .nil) (.refl _) rfl (by kernel_rfl) (by kernel_rfl)))
  ·have h := ifF hb_8 h
   refine AW.skip ?_
   refine hK_6 _ ?_
   refine AW.ra fokW [] ⟨[(0, .d (.sl 1 (List.map e3 l))), (1, .d (I n)), (5, .d (I (wr (i + 1))))], [], 0, Fr.emp, [], 0⟩ (by kernel_rfl) ?_
   obtain rfl := Option.some.inj h
   have ew : wr (i + 1) = i + 1 := inext (N := (l.length : Int)) (by omega) (by omega) (by omega)
   rw [ew]
   exact hK_2 _ _ rfl (Can.kp (by kernel_rfl))
 ·subst hout
  have h := Aft.nx hk_2
  refine AW.seqK (fun K_9 hK_9 => ?_)
  refine AW.srwK (fun Q_10 hQ_10 => ?_)
  refine RW.au fokW 2 [] ⟨[(0, .d (.sl 1 (List.map e3 l))), (1, .d (I n)), (5, .d (I i)), (6, .d (I i)), (7, .d (.sl 1 (List.map e3 l)))], [], 0, Fr.emp, [], 0⟩ (by kernel_rfl) ?_
  refine RW.one fokW (r_lenX trivial rfl lenm (r_end ?_))
  refine RW.au fokW 1 [] ⟨[(0, .d (.sl 1 (List.map e3 l))), (1, .d (I n)), (5, .d (I i)), (9, .d (.bool (decide (i < (l.length : Int)))))], [], 0, Fr.emp, [], 0⟩ (by kernel_rfl) ?_
  refine RW.nil ?_
  refine hQ_10 _ ?_
  refine AW.cond rfl (fun hb_11 => False.elim (by have := of_decide_eq_true hb_11; omega)) (fun hb_11 => ?_)
  refine AW.exit ?_
  refine hK_1 _ ?_
  refine AW.sa fokW [] ⟨[(4, .d (I (-1)))], [], 0, Fr.emp, [], 0⟩ (by kernel_rfl) ?_
  obtain rfl := Option.some.inj h
  exact AW.ret (hR_0 _ (retX (.cons (.tmp rfl) .nil) (.refl _) rfl (by kernel_rfl) (by kernel_rfl)))
def g42 (s : Span) (t : Span) : Option Span := (g44 (wr (s.Low + t.Low)) (wr (s.High + t.High))).bind fun r0 => some r0
theorem k42 (s : Span) (t : Span) (r : Span) (h : g42 s t = some r) : SCall Tryd.prog Gs 42 [.agg [.d (I s.Low), .d (I s.High)], .agg [.d (I t.Low), .d (I t.High)]] [] 0 Fr.emp (.agg [.d (I r.Low), .d (I r.High)]) [] 0 Fr.emp := by
 unfold g42 at h
 refine SCall.mkK Tryd.func42 c42 rfl rfl (by kernel_rfl) (fun Q_0 hR_0 hN_0 => ?_)
 refine AW.sa fokW [] ⟨[(2, .ptr 0 0), (3, .ptr 1 0), (4, .ptr 2 0)], [(2, .var 35 [.d (I 0), .d (I 0)]), (1, .var 35 [.d (I t.Low), .d (I t.High)]), (0, .var 35 [.d (I s.Low), .d (I s.High)])], 3, Fr.emp, [], 0⟩ (by kernel_rfl) ?_
 refine AW.srwK (fun Q_1 hQ_1 => ?_)
 refine RW.au fokW 10 [] ⟨[(4, .ptr 2 0), (9, .d (I (wr (s.Low + t.Low)))), (14, .d (I (wr (s.High + t.High))))], [(2, .var 35 [.d (I 0), .d (I 0)])], 3, Fr.emp, [], 0⟩ (by kernel_rfl) ?_
 obtain ⟨r0, hx_2, h⟩ := bsome h
 refine RW.one fokW (r_call trivial rfl (k44 (wr (s.Low + t.Low)) (wr (s.High + t.High)) _ hx_2) rfl rfl (r_end ?_))
 refine RW.au fokW 1 [] ⟨[(4, .ptr 2 0)], [(2, .var 35 [.d (I r0.Low), .d (I r0.High)])], 3, Fr.emp, [], 0⟩ (by kernel_rfl) ?_
 refine RW.nil ?_
 refine hQ_1 _ ?_
 obtain rfl := Option.some.inj h
 exact AW.ret (hR_0 _ (retX (.cons (.agg rfl rfl (Nat.le_of_ble_eq_true rfl)) .nil) (.refl _) rfl (by kernel_rfl) (by kernel_rfl)))
def g78_4 (b : HairBook) (plan : (List Int)) : Int → HairHank → (Int × Int) → Option (Int × Int) := fun h_ p (Low, High) => (g96 plan h_).bind fun r0_1 => bif (decide (0 ≤ r0_1)) then ((g73 b plan h_).bind fun r0_2 => (g42 (Span.mk Low High) r0_2).bind fun r0_1_1 => some (r0_1_1.Low, r0_1_1.High)) else (some (Low, High))
def g78 (b : HairBook) (plan : (List Int)) : Option Span := (g40 0).bind fun r0 => (eachS (g78_4 b plan) b.Hanks 0 (r0.Low, r0.High)).bind fun (Low, High) => some (Span.mk Low High)
theorem k78 (b : HairBook) (plan : (List Int)) (r : Span) (h : g78 b plan = some r) : SCall Tryd.prog Gs 78 [.agg (cv25 b), .d (.sl 1 (List.map e3 plan))] [] 0 Fr.emp (.agg [.d (I r.Low), .d (I r.High)]) [] 0 Fr.emp := by
 unfold g78 at h
 refine SCall.mkK Tryd.func78 c78 rfl rfl (by kernel_rfl) (fun Q_0 hR_0 hN_0 => ?_)
 refine AW.sa fokW [] ⟨[(1, .d (.sl 1 (List.map e3 plan))), (2, .ptr 0 0), (4, .ptr 1 0)], [(1, .var 35 [.d (I 0), .d (I 0)]), (0, .var 25 (cv25 b))], 2, Fr.emp, [], 0⟩ (by kernel_rfl) ?_
 refine AW.srwK (fun Q_1 hQ_1 => ?_)
 obtain ⟨r0, hx_2, h⟩ := bsome h
 refine RW.one fokW (r_call trivial rfl (k40 0 _ hx_2) rfl rfl (r_end ?_))
 refine RW.au fokW 2 [] ⟨[(1, .d (.sl 1 (List.map e3 plan))), (2, .ptr 0 0), (4, .ptr 1 0), (5, .ptr 2 0)], [(2, .var 35 [.d (I r0.Low), .d (I r0.High)]), (1, .var 35 [.d (I 0), .d (I 0)]), (0, .var 25 (cv25 b))], 3, Fr.emp, [], 0⟩ (by kernel_rfl) ?_
 refine RW.nil ?_
 refine hQ_1 _ ?_
 refine AW.seqK (fun K_3 hK_3 => ?_)
 refine AW.sa fokW [] ⟨[(1, .d (.sl 1 (List.map e3 plan))), (2, .ptr 0 0), (4, .ptr 1 0), (5, .ptr 2 0), (6, .d (I 0))], [(2, .var 35 [.d (I r0.Low), .d (I r0.High)]), (1, .var 35 [.d (I 0), .d (I 0)]), (0, .var 25 (cv25 b))], 3, Fr.emp, [], 0⟩ (by kernel_rfl) ?_
 refine AW.block ?_
 refine AW.slh (r := 0) (off := 0) rfl rfl (fun hN_4 => ?_)
 rw [List.length_map] at hN_4
 obtain ⟨out_4, hx_4, h⟩ := bsome h
 refine AW.evSK (fun (h_ : Int) (⟨Low, High⟩ : Int × Int) => ⟨[(1, .d (.sl 1 (List.map e3 plan))), (2, .ptr 0 0), (4, .ptr 1 0), (5, .ptr 2 0), (6, .d (I h_))], [(2, .var 35 [.d (I Low), .d (I High)]), (1, .var 35 [.d (I 0), .d (I 0)]), (0, .var 25 (cv25 b))], 3, Fr.emp, [], 0⟩) (g78_4 b plan) hx_4 (Can.kp (by kernel_rfl)) (fun h_ p s_4 hi_4 hl_4 hp_4 c_4 h K_4 hK_4 => ?_) (fun h_ s_4 hi_4 hl_4 hout => ?_)
 ·obtain ⟨Low, High⟩ := s_4
  unfold g78_4 at h
  refine AW.seqK (fun K_5 hK_5 => ?_)
  refine AW.srwK (fun Q_6 hQ_6 => ?_)
  refine RW.au fokW 3 [] ⟨[(1, .d (.sl 1 (List.map e3 plan))), (2, .ptr 0 0), (4, .ptr 1 0), (5, .ptr 2 0), (6, .d (I h_)), (8, .d (I h_)), (10, .d (.sl 4 (List.map e58 b.Hanks)))], [(2, .var 35 [.d (I Low), .d (I High)]), (1, .var 35 [.d (I 0), .d (I 0)]), (0, .var 25 (cv25 b))], 3, Fr.emp, [], 0⟩ (by kernel_rfl) ?_
  refine RW.one fokW (r_lenX trivial rfl lenm (r_end ?_))
  refine RW.au fokW 1 [] ⟨[(1, .d (.sl 1 (List.map e3 plan))), (2, .ptr 0 0), (4, .ptr 1 0), (5, .ptr 2 0), (6, .d (I h_)), (12, .d (.bool (decide (h_ < (b.Hanks.length : Int)))))], [(2, .var 35 [.d (I Low), .d (I High)]), (1, .var 35 [.d (I 0), .d (I 0)]), (0, .var 25 (cv25 b))], 3, Fr.emp, [], 0⟩ (by kernel_rfl) ?_
  refine RW.nil ?_
  refine hQ_6 _ ?_
  refine AW.cond rfl (fun hb_7 => ?_) (fun hb_7 => False.elim (by have := of_decide_eq_false hb_7; omega))
  refine AW.skip ?_
  refine hK_5 _ ?_
  refine AW.seqK (fun K_8 hK_8 => ?_)
  refine AW.block ?_
  refine AW.srwK (fun Q_9 hQ_9 => ?_)
  refine RW.au fokW 2 [] ⟨[(1, .d (.sl 1 (List.map e3 plan))), (2, .ptr 0 0), (4, .ptr 1 0), (5, .ptr 2 0), (6, .d (I h_)), (15, .d (.sl 1 (List.map e3 plan))), (16, .d (I h_))], [(2, .var 35 [.d (I Low), .d (I High)]), (1, .var 35 [.d (I 0), .d (I 0)]), (0, .var 25 (cv25 b))], 3, Fr.emp, [], 0⟩ (by kernel_rfl) ?_
  obtain ⟨r0_1, hx_10, h⟩ := bsome h
  refine RW.one fokW (r_call trivial rfl (k96 plan h_ _ hx_10) rfl rfl (r_end ?_))
  refine RW.au fokW 1 [] ⟨[(1, .d (.sl 1 (List.map e3 plan))), (2, .ptr 0 0), (4, .ptr 1 0), (5, .ptr 2 0), (6, .d (I h_)), (18, .d (.bool (decide (0 ≤ r0_1))))], [(2, .var 35 [.d (I Low), .d (I High)]), (1, .var 35 [.d (I 0), .d (I 0)]), (0, .var 25 (cv25 b))], 3, Fr.emp, [], 0⟩ (by kernel_rfl) ?_
  refine RW.nil ?_
  refine hQ_9 _ ?_
  refine AW.cond rfl (fun hb_11 => ?_) (fun hb_11 => ?_)
  ·have h := ifT hb_11 h
   refine AW.drw fokW ?_
   refine RunC.auX 4 ⟨[(1, .d (.sl 1 (List.map e3 plan))), (2, .ptr 0 0), (4, .ptr 1 0), (5, .ptr 2 0), (6, .d (I h_)), (19, .agg [.d (I Low), .d (I High)]), (20, .agg (cv25 b)), (21, .d (.sl 1 (List.map e3 plan))), (22, .d (I h_))], [(2, .var 35 [.d (I Low), .d (I High)]), (1, .var 35 [.d (I 0), .d (I 0)]), (0, .var 25 (cv25 b))], 3, Fr.emp, [], 0⟩ (by kernel_rfl) ?_
   obtain ⟨r0_2, hx_13, h⟩ := bsome h
   refine r_call trivial rfl (k73 b plan h_ _ hx_13) rfl rfl ?_
   obtain ⟨r0_1_1, hx_14, h⟩ := bsome h
   refine r_call trivial rfl (k42 (Span.mk Low High) r0_2 _ hx_14) rfl rfl ?_
   refine RunC.auX 1 ⟨[(1, .d (.sl 1 (List.map e3 plan))), (2, .ptr 0 0), (4, .ptr 1 0), (5, .ptr 2 0), (6, .d (I h_))], [(2, .var 35 [.d (I r0_1_1.Low), .d (I r0_1_1.High)]), (1, .var 35 [.d (I 0), .d (I 0)]), (0, .var 25 (cv25 b))], 3, Fr.emp, [], 0⟩ (by kernel_rfl) ?_
   refine RunC.fin ⟨[(1, .d (.sl 1 (List.map e3 plan))), (2, .ptr 0 0), (4, .ptr 1 0), (5, .ptr 2 0), (6, .d (I h_))], [(2, .var 35 [.d (I r0_1_1.Low), .d (I r0_1_1.High)]), (1, .var 35 [.d (I 0), .d (I 0)]), (0, .var 25 (cv25 b))], 3, Fr.emp, [], 0⟩ (by kernel_rfl) (by kernel_rfl) ?_
   refine hK_8 _ ?_
   refine AW.ra fokW [] ⟨[(1, .d (.sl 1 (List.map e3 plan))), (2, .ptr 0 0), (4, .ptr 1 0), (5, .ptr 2 0), (6, .d (I (wr (h_ + 1))))], [(2, .var 35 [.d (I r0_1_1.Low), .d (I r0_1_1.High)]), (1, .var 35 [.d (I 0), .d (I 0)]), (0, .var 25 (cv25 b))], 3, Fr.emp, [], 0⟩ (by kernel_rfl) ?_
   obtain rfl := Option.some.inj h
   have ew : wr (h_ + 1) = h_ + 1 := inext (N := (b.Hanks.length : Int)) (by omega) (by omega) (by omega)
   rw [ew]
   exact hK_4 _ (Can.kp (by kernel_rfl))
  ·have h := ifF hb_11 h
   refine AW.skip ?_
   refine hK_8 _ ?_
   refine AW.ra fokW [] ⟨[(1, .d (.sl 1 (List.map e3 plan))), (2, .ptr 0 0), (4, .ptr 1 0), (5, .ptr 2 0), (6, .d (I (wr (h_ + 1))))], [(2, .var 35 [.d (I Low), .d (I High)]), (1, .var 35 [.d (I 0), .d (I 0)]), (0, .var 25 (cv25 b))], 3, Fr.emp, [], 0⟩ (by kernel_rfl) ?_
   obtain rfl := Option.some.inj h
   have ew : wr (h_ + 1) = h_ + 1 := inext (N := (b.Hanks.length : Int)) (by omega) (by omega) (by omega)
   rw [ew]
   exact hK_4 _ (Can.kp (by kernel_rfl))
 ·obtain ⟨Low, High⟩ := s_4
  subst hout
  refine AW.seqK (fun K_15 hK_15 => ?_)
  refine AW.srwK (fun Q_16 hQ_16 => ?_)
  refine RW.au fokW 3 [] ⟨[(1, .d (.sl 1 (List.map e3 plan))), (2, .ptr 0 0), (4, .ptr 1 0), (5, .ptr 2 0), (6, .d (I h_)), (8, .d (I h_)), (10, .d (.sl 4 (List.map e58 b.Hanks)))], [(2, .var 35 [.d (I Low), .d (I High)]), (1, .var 35 [.d (I 0), .d (I 0)]), (0, .var 25 (cv25 b))], 3, Fr.emp, [], 0⟩ (by kernel_rfl) ?_
  refine RW.one fokW (r_lenX trivial rfl lenm (r_end ?_))
  refine RW.au fokW 1 [] ⟨[(1, .d (.sl 1 (List.map e3 plan))), (2, .ptr 0 0), (4, .ptr 1 0), (5, .ptr 2 0), (6, .d (I h_)), (12, .d (.bool (decide (h_ < (b.Hanks.length : Int)))))], [(2, .var 35 [.d (I Low), .d (I High)]), (1, .var 35 [.d (I 0), .d (I 0)]), (0, .var 25 (cv25 b))], 3, Fr.emp, [], 0⟩ (by kernel_rfl) ?_
  refine RW.nil ?_
  refine hQ_16 _ ?_
  refine AW.cond rfl (fun hb_17 => False.elim (by have := of_decide_eq_true hb_17; omega)) (fun hb_17 => ?_)
  refine AW.exit ?_
  refine hK_3 _ ?_
  refine AW.sa fokW [] ⟨[(4, .ptr 1 0)], [(1, .var 35 [.d (I Low), .d (I High)])], 3, Fr.emp, [], 0⟩ (by kernel_rfl) ?_
  obtain rfl := Option.some.inj h
  exact AW.ret (hR_0 _ (retX (.cons (.agg rfl rfl (Nat.le_of_ble_eq_true rfl)) .nil) (.refl _) rfl (by kernel_rfl) (by kernel_rfl)))
def g24 (b : HairBook) (plan : (List Int)) : Option (Span × Int) := (g72 b plan true).bind fun r0_4 => bif (decide (r0_4 ≠ 0)) then (some ((Span.mk 0 0), r0_4)) else ((g78 b plan).bind fun r0_3 => some (r0_3, 0))
theorem k24 (b : HairBook) (plan : (List Int)) (r : Span × Int) (h : g24 b plan = some r) : SCall Tryd.prog Gs 24 [.agg (cv25 b), .d (.sl 1 (List.map e3 plan))] [] 0 Fr.emp (match r with | (r0_1, r1_1) => .tup [.agg [.d (I r0_1.Low), .d (I r0_1.High)], .d (I r1_1)]) [] 0 Fr.emp := by
 unfold g24 at h
 refine SCall.mkK Tryd.func24 c24 rfl rfl (by kernel_rfl) (fun Q_0 hR_0 hN_0 => ?_)
 refine AW.sa fokW [] ⟨[(1, .d (.sl 1 (List.map e3 plan))), (2, .ptr 0 0), (4, .ptr 1 0)], [(1, .var 35 [.d (I 0), .d (I 0)]), (0, .var 25 (cv25 b))], 2, Fr.emp, [], 0⟩ (by kernel_rfl) ?_
 refine AW.seqK (fun K_1 hK_1 => ?_)
 refine AW.srwK (fun Q_2 hQ_2 => ?_)
 refine RW.au fokW 2 [] ⟨[(1, .d (.sl 1 (List.map e3 plan))), (2, .ptr 0 0), (4, .ptr 1 0), (7, .agg (cv25 b)), (8, .d (.sl 1 (List.map e3 plan)))], [(1, .var 35 [.d (I 0), .d (I 0)]), (0, .var 25 (cv25 b))], 2, Fr.emp, [], 0⟩ (by kernel_rfl) ?_
 obtain ⟨r0_4, hx_3, h⟩ := bsome h
 refine RW.one fokW (r_call trivial rfl (k72 b plan true _ hx_3) rfl rfl (r_end ?_))
 refine RW.au fokW 1 [] ⟨[(1, .d (.sl 1 (List.map e3 plan))), (2, .ptr 0 0), (4, .ptr 1 0), (6, .d (I r0_4))], [(1, .var 35 [.d (I 0), .d (I 0)]), (0, .var 25 (cv25 b))], 2, Fr.emp, [], 0⟩ (by kernel_rfl) ?_
 refine RW.nil ?_
 refine hQ_2 _ ?_
 refine AW.sa fokW [] ⟨[(1, .d (.sl 1 (List.map e3 plan))), (2, .ptr 0 0), (4, .ptr 1 0), (6, .d (I r0_4)), (11, .d (.bool (decide (r0_4 ≠ 0))))], [(1, .var 35 [.d (I 0), .d (I 0)]), (0, .var 25 (cv25 b))], 2, Fr.emp, [], 0⟩ (by kernel_rfl) ?_
 refine AW.cond rfl (fun hb_4 => ?_) (fun hb_4 => ?_)
 ·have h := ifT hb_4 h
  refine AW.sa fokW [] ⟨[(4, .ptr 1 0), (5, .d (I r0_4))], [(1, .var 35 [.d (I 0), .d (I 0)])], 2, Fr.emp, [], 0⟩ (by kernel_rfl) ?_
  obtain rfl := Option.some.inj h
  exact AW.ret (hR_0 _ (retX (.cons (.agg rfl rfl (Nat.le_of_ble_eq_true rfl)) (.cons (.tmp rfl) .nil)) (.refl _) rfl (by kernel_rfl) (by kernel_rfl)))
 ·have h := ifF hb_4 h
  refine AW.skip ?_
  refine hK_1 _ ?_
  refine AW.srwK (fun Q_5 hQ_5 => ?_)
  refine RW.au fokW 2 [] ⟨[(4, .ptr 1 0), (14, .agg (cv25 b)), (15, .d (.sl 1 (List.map e3 plan)))], [(1, .var 35 [.d (I 0), .d (I 0)])], 2, Fr.emp, [], 0⟩ (by kernel_rfl) ?_
  obtain ⟨r0_3, hx_6, h⟩ := bsome h
  refine RW.one fokW (r_call trivial rfl (k78 b plan _ hx_6) rfl rfl (r_end ?_))
  refine RW.au fokW 2 [] ⟨[(4, .ptr 1 0), (5, .d (I 0))], [(1, .var 35 [.d (I r0_3.Low), .d (I r0_3.High)])], 2, Fr.emp, [], 0⟩ (by kernel_rfl) ?_
  refine RW.nil ?_
  refine hQ_5 _ ?_
  obtain rfl := Option.some.inj h
  exact AW.ret (hR_0 _ (retX (.cons (.agg rfl rfl (Nat.le_of_ble_eq_true rfl)) (.cons (.tmp rfl) .nil)) (.refl _) rfl (by kernel_rfl) (by kernel_rfl)))
def g98 (weight : Span) (shade : Span) : Option HairHank := some (HairHank.mk weight shade)
theorem k98 (weight : Span) (shade : Span) (r : HairHank) (h : g98 weight shade = some r) : SCall Tryd.prog Gs 98 [.agg [.d (I weight.Low), .d (I weight.High)], .agg [.d (I shade.Low), .d (I shade.High)]] [] 0 Fr.emp (.agg [.d (I r.Weight.Low), .d (I r.Weight.High), .d (I r.Shade.Low), .d (I r.Shade.High)]) [] 0 Fr.emp := by
 unfold g98 at h
 refine SCall.mkK Tryd.func98 c98 rfl rfl (by kernel_rfl) (fun Q_0 hR_0 hN_0 => ?_)
 refine AW.sa fokW [] ⟨[(2, .ptr 0 0), (3, .ptr 1 0), (4, .ptr 2 0)], [(2, .var 58 [.d (I 0), .d (I 0), .d (I 0), .d (I 0)]), (1, .var 35 [.d (I shade.Low), .d (I shade.High)]), (0, .var 35 [.d (I weight.Low), .d (I weight.High)])], 3, Fr.emp, [], 0⟩ (by kernel_rfl) ?_
 refine AW.sa fokW [] ⟨[(4, .ptr 2 0)], [(2, .var 58 [.d (I weight.Low), .d (I weight.High), .d (I shade.Low), .d (I shade.High)])], 3, Fr.emp, [], 0⟩ (by kernel_rfl) ?_
 obtain rfl := Option.some.inj h
 exact AW.ret (hR_0 _ (retX (.cons (.agg rfl rfl (Nat.le_of_ble_eq_true rfl)) .nil) (.refl _) rfl (by kernel_rfl) (by kernel_rfl)))
def g99 (mane : Int) (tail : Int) (shade : Int) : Option HairHorse := some (HairHorse.mk mane tail shade)
theorem k99 (mane : Int) (tail : Int) (shade : Int) (r : HairHorse) (h : g99 mane tail shade = some r) : SCall Tryd.prog Gs 99 [.d (I mane), .d (I tail), .d (I shade)] [] 0 Fr.emp (.agg [.d (I r.Mane), .d (I r.Tail), .d (I r.Shade)]) [] 0 Fr.emp := by
 unfold g99 at h
 refine SCall.mkK Tryd.func99 c99 rfl rfl (by kernel_rfl) (fun Q_0 hR_0 hN_0 => ?_)
 refine AW.sa fokW [] ⟨[(0, .d (I mane)), (1, .d (I tail)), (2, .d (I shade)), (6, .ptr 0 0)], [(0, .var 69 [.d (I 0), .d (I 0), .d (I 0)])], 1, Fr.emp, [], 0⟩ (by kernel_rfl) ?_
 refine AW.sa fokW [] ⟨[(6, .ptr 0 0)], [(0, .var 69 [.d (I mane), .d (I tail), .d (I shade)])], 1, Fr.emp, [], 0⟩ (by kernel_rfl) ?_
 obtain rfl := Option.some.inj h
 exact AW.ret (hR_0 _ (retX (.cons (.agg rfl rfl (Nat.le_of_ble_eq_true rfl)) .nil) (.refl _) rfl (by kernel_rfl) (by kernel_rfl)))
def g53  : Option ((List HairHank) × (List HairHorse) × Int × Int × Int) := (g44 10 11).bind fun r0 => (g44 4 5).bind fun r0_1 => (g98 r0 r0_1).bind fun r0_2 => (g44 8 9).bind fun r0_3 => (g40 6).bind fun r0_4 => (g98 r0_3 r0_4).bind fun r0_5 => (g44 20 22).bind fun r0_6 => (g40 3).bind fun r0_7 => (g98 r0_6 r0_7).bind fun r0_8 => (g99 6 4 6).bind fun r0_9 => (g99 5 3 7).bind fun r0_10 => some ([r0_2, r0_5, r0_8], [r0_9, r0_10], 2, 1, 1)
theorem k53  (r : (List HairHank) × (List HairHorse) × Int × Int × Int) (h : g53 = some r) : SCall Tryd.prog Gs 53 [] [] 0 Fr.emp (match r with | (r0_Hanks, r0_Horses, r0_Dark, r0_Near, r0_Match) => .agg [.own 1 (List.map e58 r0_Hanks).length, .own 2 (List.map e69 r0_Horses).length, .d (I r0_Dark), .d (I r0_Near), .d (I r0_Match)]) (match r with | (r0_Hanks, r0_Horses, r0_Dark, r0_Near, r0_Match) => [(1, .row 58 4 (List.map e58 r0_Hanks)), (2, .row 69 3 (List.map e69 r0_Horses))]) 3 Fr.emp := by
 unfold g53 at h
 refine SCall.mkK Tryd.func53 c53 rfl rfl (by kernel_rfl) (fun Q_0 hR_0 hN_0 => ?_)
 refine AW.sa fokW [] ⟨[(0, .ptr 0 0)], [(0, .var 25 [.d (.nilSl), .d (.nilSl), .d (I 0), .d (I 0), .d (I 0)])], 1, Fr.emp, [], 0⟩ (by kernel_rfl) ?_
 refine AW.srwK (fun Q_1 hQ_1 => ?_)
 obtain ⟨r0, hx_2, h⟩ := bsome h
 refine RW.one fokW (r_call trivial rfl (k44 10 11 _ hx_2) rfl rfl (r_end ?_))
 obtain ⟨r0_1, hx_3, h⟩ := bsome h
 refine RW.one fokW (r_call trivial rfl (k44 4 5 _ hx_3) rfl rfl (r_end ?_))
 obtain ⟨r0_2, hx_4, h⟩ := bsome h
 refine RW.one fokW (r_call trivial rfl (k98 r0 r0_1 _ hx_4) rfl rfl (r_end ?_))
 obtain ⟨r0_3, hx_5, h⟩ := bsome h
 refine RW.one fokW (r_call trivial rfl (k44 8 9 _ hx_5) rfl rfl (r_end ?_))
 obtain ⟨r0_4, hx_6, h⟩ := bsome h
 refine RW.one fokW (r_call trivial rfl (k40 6 _ hx_6) rfl rfl (r_end ?_))
 obtain ⟨r0_5, hx_7, h⟩ := bsome h
 refine RW.one fokW (r_call trivial rfl (k98 r0_3 r0_4 _ hx_7) rfl rfl (r_end ?_))
 obtain ⟨r0_6, hx_8, h⟩ := bsome h
 refine RW.one fokW (r_call trivial rfl (k44 20 22 _ hx_8) rfl rfl (r_end ?_))
 obtain ⟨r0_7, hx_9, h⟩ := bsome h
 refine RW.one fokW (r_call trivial rfl (k40 3 _ hx_9) rfl rfl (r_end ?_))
 obtain ⟨r0_8, hx_10, h⟩ := bsome h
 refine RW.one fokW (r_call trivial rfl (k98 r0_6 r0_7 _ hx_10) rfl rfl (r_end ?_))
 refine RW.au fokW 1 [] ⟨[(0, .ptr 0 0), (10, .own 1 (List.map e58 [r0_2, r0_5, r0_8]).length)], [(1, .row 58 4 (List.map e58 [r0_2, r0_5, r0_8])), (0, .var 25 [.d (.nilSl), .d (.nilSl), .d (I 0), .d (I 0), .d (I 0)])], 2, Fr.emp, [], 0⟩ (by kernel_rfl) ?_
 obtain ⟨r0_9, hx_11, h⟩ := bsome h
 refine RW.one fokW (r_call trivial rfl (k99 6 4 6 _ hx_11) rfl rfl (r_end ?_))
 obtain ⟨r0_10, hx_12, h⟩ := bsome h
 refine RW.one fokW (r_call trivial rfl (k99 5 3 7 _ hx_12) rfl rfl (r_end ?_))
 refine RW.au fokW 3 [] ⟨[(0, .ptr 0 0)], [(0, .var 25 [.own 1 (List.map e58 [r0_2, r0_5, r0_8]).length, .own 2 (List.map e69 [r0_9, r0_10]).length, .d (I 2), .d (I 1), .d (I 1)]), (2, .row 69 3 (List.map e69 [r0_9, r0_10])), (1, .row 58 4 (List.map e58 [r0_2, r0_5, r0_8]))], 3, Fr.emp, [], 0⟩ (by kernel_rfl) ?_
 refine RW.nil ?_
 refine hQ_1 _ ?_
 obtain rfl := Option.some.inj h
 exact AW.ret (hR_0 _ (retX (.cons (.agg rfl rfl (Nat.le_of_ble_eq_true rfl)) .nil) (.refl _) rfl (by kernel_rfl) (by kernel_rfl)))
def g79  : Option HairBook := (g53).bind fun (r0_Hanks, r0_Horses, r0_Dark, r0_Near, r0_Match) => (g44 7 8).bind fun r0 => (ixL r0_Hanks 1).bind fun p => some (HairBook.mk (setL r0_Hanks 1 (HairHank.mk r0 p.Shade)) r0_Horses r0_Dark r0_Near r0_Match)
theorem k79  (r : HairBook) (h : g79 = some r) : SCall Tryd.prog Gs 79 [] [] 0 Fr.emp (.agg (cv25 r)) [] 0 Fr.emp := by
 unfold g79 at h
 refine SCall.mkK Tryd.func79 c79 rfl rfl (by kernel_rfl) (fun Q_0 hR_0 hN_0 => ?_)
 refine AW.sa fokW [] ⟨[(0, .ptr 0 0)], [(0, .var 25 [.d (.nilSl), .d (.nilSl), .d (I 0), .d (I 0), .d (I 0)])], 1, Fr.emp, [], 0⟩ (by kernel_rfl) ?_
 refine AW.srwK (fun Q_1 hQ_1 => ?_)
 obtain ⟨⟨r0_Hanks, r0_Horses, r0_Dark, r0_Near, r0_Match⟩, hx_2, h⟩ := bsome h
 refine RW.one fokW (r_callS (zr := []) [] trivial rfl (k53 _ hx_2) trivial rfl rfl trivial rfl rfl rfl (r_end ?_))
 refine RW.au fokW 2 [] ⟨[(0, .ptr 0 0), (1, .ptr 4 0)], [(4, .var 25 [.own 2 (List.map e58 r0_Hanks).length, .own 3 (List.map e69 r0_Horses).length, .d (I r0_Dark), .d (I r0_Near), .d (I r0_Match)]), (2, .row 58 4 (List.map e58 r0_Hanks)), (3, .row 69 3 (List.map e69 r0_Horses)), (0, .var 25 [.d (.nilSl), .d (.nilSl), .d (I 0), .d (I 0), .d (I 0)])], 5, Fr.emp, [], 0⟩ (by kernel_rfl) ?_
 refine RW.nil ?_
 refine hQ_1 _ ?_
 refine AW.sdrwK fokW (fun Q_3 hQ_3 => ?_)
 refine RunC.auX 2 ⟨[(0, .ptr 0 0), (1, .ptr 4 0), (4, .own 2 (List.map e58 r0_Hanks).length)], [(4, .var 25 [.own 2 (List.map e58 r0_Hanks).length, .own 3 (List.map e69 r0_Horses).length, .d (I r0_Dark), .d (I r0_Near), .d (I r0_Match)]), (2, .row 58 4 (List.map e58 r0_Hanks)), (3, .row 69 3 (List.map e69 r0_Horses)), (0, .var 25 [.d (.nilSl), .d (.nilSl), .d (I 0), .d (I 0), .d (I 0)])], 5, Fr.emp, [], 0⟩ (by kernel_rfl) ?_
 obtain ⟨r0, hx_4, h⟩ := bsome h
 refine r_call trivial rfl (k44 7 8 _ hx_4) rfl rfl ?_
 obtain ⟨p, hv_5, h⟩ := bsome h
 refine r_iaO trivial rfl rfl rfl (ixL_ok hv_5).1 (ix_lt (ixL_ok hv_5).2) rfl ?_
 refine RunC.auX 1 ⟨[(0, .ptr 0 0), (1, .ptr 4 0), (5, .agg [.d (I r0.Low), .d (I r0.High)]), (7, .eptr 2 (List.map e58 r0_Hanks).length (1 : Int).toNat 0)], [(4, .var 25 [.own 2 (List.map e58 r0_Hanks).length, .own 3 (List.map e69 r0_Horses).length, .d (I r0_Dark), .d (I r0_Near), .d (I r0_Match)]), (2, .row 58 4 (List.map e58 r0_Hanks)), (3, .row 69 3 (List.map e69 r0_Horses)), (0, .var 25 [.d (.nilSl), .d (.nilSl), .d (I 0), .d (I 0), .d (I 0)])], 5, Fr.emp, [], 0⟩ (by kernel_rfl) ?_
 refine r_stE trivial rfl rfl rfl rfl (mapget (f := e58) (ixL_ok hv_5).2) rfl rfl rfl (Nat.le_of_ble_eq_true rfl) (stz (f := e58) (x := (HairHank.mk r0 p.Shade)) rfl) ?_
 rw [lenset (f := e58) (xs := r0_Hanks) (i := 1) (x := (HairHank.mk r0 p.Shade))]
 refine RunC.fin ⟨[(0, .ptr 0 0), (1, .ptr 4 0)], [(2, .row 58 4 (List.map e58 (setL r0_Hanks 1 (HairHank.mk r0 p.Shade)))), (4, .var 25 [.own 2 (List.map e58 (setL r0_Hanks 1 (HairHank.mk r0 p.Shade))).length, .own 3 (List.map e69 r0_Horses).length, .d (I r0_Dark), .d (I r0_Near), .d (I r0_Match)]), (3, .row 69 3 (List.map e69 r0_Horses)), (0, .var 25 [.d (.nilSl), .d (.nilSl), .d (I 0), .d (I 0), .d (I 0)])], 5, Fr.emp, [], 0⟩ (by kernel_rfl) (by kernel_rfl) ?_
 refine hQ_3 _ ?_
 refine AW.sa fokW [] ⟨[(0, .ptr 0 0)], [(0, .var 25 [.own 2 (List.map e58 (setL r0_Hanks 1 (HairHank.mk r0 p.Shade))).length, .own 3 (List.map e69 r0_Horses).length, .d (I r0_Dark), .d (I r0_Near), .d (I r0_Match)]), (2, .row 58 4 (List.map e58 (setL r0_Hanks 1 (HairHank.mk r0 p.Shade)))), (3, .row 69 3 (List.map e69 r0_Horses))], 5, Fr.emp, [], 0⟩ (by kernel_rfl) ?_
 obtain rfl := Option.some.inj h
 exact AW.ret (hR_0 _ (retX (.cons (.agg rfl rfl (Nat.le_of_ble_eq_true rfl)) .nil) (Frz.agg_of ⟨(.own rfl rfl), (.own rfl rfl), .refl _, .refl _, .refl _, trivial⟩) rfl (by kernel_rfl) (by kernel_rfl)))
def g88 (b_B : HairBook) (mf : List (Hair_dye × Span)) (m0_B : HairBook) (mf_1 : List (Hair_dye × Span)) : Option (HairBook × (List (Hair_dye × Span))) := some (b_B, mf)
theorem k88 (b_B : HairBook) (mf : List (Hair_dye × Span)) (m0_B : HairBook) (mf_1 : List (Hair_dye × Span)) (r : HairBook × (List (Hair_dye × Span))) (h : g88 b_B mf m0_B mf_1 = some r) : SCall Tryd.prog Gs 88 [.agg (hbm b_B mf), .agg [.d (.fn 107)], .clo 89 [.agg (hbm m0_B mf_1)] []] [] 0 Fr.emp (match r with | (o0_B, mf1) => .clo 111 [] [.ptr 0 0, .ptr 1 0, .ptr 2 0]) (match r with | (o0_B, mf1) => [(0, .var 78 (hbm o0_B mf1)), (1, .var 99 [.d (.fn 107)]), (2, .var 65 [.clo 89 [.agg (hbm m0_B mf_1)] []])]) 3 Fr.emp := by
 unfold g88 at h
 refine SCall.mkK Tryd.func88 c88 rfl rfl (by kernel_rfl) (fun Q_0 hR_0 hN_0 => ?_)
 refine AW.sa fokW [] ⟨[(3, .ptr 0 0), (4, .ptr 1 0), (5, .ptr 2 0)], [(2, .var 65 [.clo 89 [.agg (hbm m0_B mf_1)] []]), (1, .var 99 [.d (.fn 107)]), (0, .var 78 (hbm b_B mf))], 3, Fr.emp, [], 0⟩ (by kernel_rfl) ?_
 refine AW.sa fokW [] ⟨[(6, .clo 111 [] [.ptr 0 0, .ptr 1 0, .ptr 2 0])], [(2, .var 65 [.clo 89 [.agg (hbm m0_B mf_1)] []]), (1, .var 99 [.d (.fn 107)]), (0, .var 78 (hbm b_B mf))], 3, Fr.emp, [], 0⟩ (by kernel_rfl) ?_
 obtain rfl := Option.some.inj h
 exact AW.ret (hR_0 _ (retX (.cons (.tmp rfl) .nil) (.refl _) rfl (by kernel_rfl) (by kernel_rfl)))
end Go.Proofs.Th
namespace Go.Proofs.Th
open Go Go.Abs Go.Proofs
def g112_16 {S_ : Type} (rec_ : (List Int) → (Nat → Int) → HairBook → (List (Hair_dye × Span)) → HairBook → (List (Hair_dye × Span)) → S_ → Option (Bool × S_)) (plan : (List Int)) (cut : (Nat → Int)) (o0_B : HairBook) (mf : List (Hair_dye × Span)) (m0_B : HairBook) (mf_1 : List (Hair_dye × Span)) (need : Int) : Int → HairHank → S_ → Option (Ctl (S_) (Bool × S_)) := fun v p2 s_2 => bindC ((ixN 5 v).bind fun j1 => (g107 p2.Weight).bind fun r0_2 => bif (decide (r0_2 < (wr ((cut j1) + need)))) then (some (.brk (.next s_2))) else (bif (decide (((plan.length : Int).tmod 2) = 1)) then ((ixL plan (wr ((plan.length : Int) - 1))).bind fun p3 => (g89 m0_B mf_1 (wr ((plan.length : Int).tdiv 2)) p3 v).bind fun r0_3 => bif (!r0_3) then (some (.brk (.next s_2))) else (some (.next ()))) else (some (.next ()))) : Option (Ctl (Unit) (Ctl (S_) (Bool × S_)))) fun _ => (ixN 5 v).bind fun j2 => (ixN 5 v).bind fun j3 => (slcL plan 0 (plan.length : Int)).bind fun l => (appL 8 l [v]).bind fun l1 => (rec_ l1 (aset cut j3 (wr ((cut j2) + need))) o0_B mf m0_B mf_1 s_2).bind fun (r0_7_1, s_5_1) => bif (!r0_7_1) then (some (.brk (false, s_5_1))) else (some (.next s_5_1))
def g112 {S_ : Type} (c_ : (List Int) → (Nat → Int) → S_ → Option (S_ × Bool)) : Nat → (List Int) → (Nat → Int) → HairBook → (List (Hair_dye × Span)) → HairBook → (List (Hair_dye × Span)) → S_ → Option (Bool × S_)
 | 0, _, _, _, _, _, _, _ => none
 | n_ + 1, plan, cut, o0_B, mf, m0_B, mf_1, s_ => bif (decide ((plan.length : Int) = (wr (2 * (o0_B.Horses.length : Int))))) then ((c_ plan cut s_).bind fun (s_1, go) => some (go, s_1)) else (((ixN 2 ((plan.length : Int).tmod 2)).bind fun j => match j with | 0 => (ixL o0_B.Horses (wr ((plan.length : Int).tdiv 2))).bind fun p => (g133 p).bind fun r0 => some r0 | 1 => (ixL o0_B.Horses (wr ((plan.length : Int).tdiv 2))).bind fun p1 => (g135 p1).bind fun r0_1 => some r0_1 | _ => none).bind fun need => bindC (eachC (g112_16 (g112 c_ n_) plan cut o0_B mf m0_B mf_1 need) o0_B.Hanks 0 s_) fun s_2 => some (true, s_2))
theorem k112 {S_ : Type} (fr_ : S_ → Fr) (c_ : (List Int) → (Nat → Int) → S_ → Option (S_ × Bool)) (hc_ : ∀ (a0 : (List Int)) (a1 : (Nat → Int)) s s2 b, c_ a0 a1 s = some (s2, b) → YCall Tryd.prog Gs (fr_ s) [.d (.sl 1 (List.map e3 a0)), .agg (c5 a1)] (.d (.bool b)) (fr_ s2)) : ∀ (n_ : Nat) (plan : (List Int)) (cut : (Nat → Int)) (o0_B : HairBook) (mf : List (Hair_dye × Span)) (m0_B : HairBook) (mf_1 : List (Hair_dye × Span)) (s_ : S_) (r : Bool × S_) (h : g112 c_ n_ plan cut o0_B mf m0_B mf_1 s_ = some r), SCall Tryd.prog Gs 112 [.d (.sl 1 (List.map e3 plan)), .agg (c5 cut), .ptr 0 0, .ptr 1 0, .ptr 2 0, .ptr 3 0, .ptr 4 0] [(0, .var 78 (hbm o0_B mf)), (1, .var 127 [.yld]), (2, .var 99 [.d (.fn 107)]), (3, .var 65 [.clo 89 [.agg (hbm m0_B mf_1)] []]), (4, .var 127 [.clo 112 [] [.ptr 0 0, .ptr 1 0, .ptr 2 0, .ptr 3 0, .ptr 4 0]])] 5 (fr_ s_) (match r with | (r0_7, s_5) => .d (.bool r0_7)) (match r with | (r0_7, s_5) => [(0, .var 78 (hbm o0_B mf)), (1, .var 127 [.yld]), (2, .var 99 [.d (.fn 107)]), (3, .var 65 [.clo 89 [.agg (hbm m0_B mf_1)] []]), (4, .var 127 [.clo 112 [] [.ptr 0 0, .ptr 1 0, .ptr 2 0, .ptr 3 0, .ptr 4 0]])]) 5 (fr_ (match r with | (r0_7, s_5) => s_5)) := by
 intro n_
 induction n_ with
 | zero => intro plan cut o0_B mf m0_B mf_1 s_ r h; cases h
 | succ n_ ih =>
  intro plan cut o0_B mf m0_B mf_1 s_ r h
  rw [g112] at h
  refine SCall.mkK Tryd.func112 c112 rfl rfl (by kernel_rfl) (fun Q_0 hR_0 hN_0 => ?_)
  refine AW.sa fokW [] ⟨[(0, .d (.sl 1 (List.map e3 plan))), (2, .ptr 0 0), (3, .ptr 1 0), (4, .ptr 2 0), (5, .ptr 3 0), (6, .ptr 4 0), (8, .ptr 5 0)], [(5, .var 92 (c5 cut)), (0, .var 78 (hbm o0_B mf)), (1, .var 127 [.yld]), (2, .var 99 [.d (.fn 107)]), (3, .var 65 [.clo 89 [.agg (hbm m0_B mf_1)] []]), (4, .var 127 [.clo 112 [] [.ptr 0 0, .ptr 1 0, .ptr 2 0, .ptr 3 0, .ptr 4 0]])], 6, (fr_ s_), [], 5⟩ (by kernel_rfl) ?_
  refine AW.scope ?_
  refine AW.srwK (fun Q_1 hQ_1 => ?_)
  refine RW.au fokW 1 [] ⟨[(0, .d (.sl 1 (List.map e3 plan))), (2, .ptr 0 0), (3, .ptr 1 0), (4, .ptr 2 0), (5, .ptr 3 0), (6, .ptr 4 0), (8, .ptr 5 0), (15, .d (.sl 1 (List.map e3 plan)))], [(5, .var 92 (c5 cut)), (0, .var 78 (hbm o0_B mf)), (1, .var 127 [.yld]), (2, .var 99 [.d (.fn 107)]), (3, .var 65 [.clo 89 [.agg (hbm m0_B mf_1)] []]), (4, .var 127 [.clo 112 [] [.ptr 0 0, .ptr 1 0, .ptr 2 0, .ptr 3 0, .ptr 4 0]])], 6, (fr_ s_), [], 5⟩ (by kernel_rfl) ?_
  refine RW.one fokW (r_lenX trivial rfl lenm (r_end ?_))
  refine RW.au fokW 1 [] ⟨[(0, .d (.sl 1 (List.map e3 plan))), (2, .ptr 0 0), (3, .ptr 1 0), (4, .ptr 2 0), (5, .ptr 3 0), (6, .ptr 4 0), (8, .ptr 5 0), (10, .d (I (plan.length : Int)))], [(5, .var 92 (c5 cut)), (0, .var 78 (hbm o0_B mf)), (1, .var 127 [.yld]), (2, .var 99 [.d (.fn 107)]), (3, .var 65 [.clo 89 [.agg (hbm m0_B mf_1)] []]), (4, .var 127 [.clo 112 [] [.ptr 0 0, .ptr 1 0, .ptr 2 0, .ptr 3 0, .ptr 4 0]])], 6, (fr_ s_), [], 5⟩ (by kernel_rfl) ?_
  refine RW.nil ?_
  refine hQ_1 _ ?_
  refine AW.seqK (fun K_2 hK_2 => ?_)
  refine AW.srwK (fun Q_3 hQ_3 => ?_)
  refine RW.au fokW 4 [] ⟨[(0, .d (.sl 1 (List.map e3 plan))), (2, .ptr 0 0), (3, .ptr 1 0), (4, .ptr 2 0), (5, .ptr 3 0), (6, .ptr 4 0), (8, .ptr 5 0), (10, .d (I (plan.length : Int))), (17, .d (I (plan.length : Int))), (20, .d (.sl 3 (List.map e69 o0_B.Horses)))], [(5, .var 92 (c5 cut)), (0, .var 78 (hbm o0_B mf)), (1, .var 127 [.yld]), (2, .var 99 [.d (.fn 107)]), (3, .var 65 [.clo 89 [.agg (hbm m0_B mf_1)] []]), (4, .var 127 [.clo 112 [] [.ptr 0 0, .ptr 1 0, .ptr 2 0, .ptr 3 0, .ptr 4 0]])], 6, (fr_ s_), [], 5⟩ (by kernel_rfl) ?_
  refine RW.one fokW (r_lenX trivial rfl lenm (r_end ?_))
  refine RW.au fokW 2 [] ⟨[(0, .d (.sl 1 (List.map e3 plan))), (2, .ptr 0 0), (3, .ptr 1 0), (4, .ptr 2 0), (5, .ptr 3 0), (6, .ptr 4 0), (8, .ptr 5 0), (10, .d (I (plan.length : Int))), (23, .d (.bool (decide ((plan.length : Int) = (wr (2 * (o0_B.Horses.length : Int)))))))], [(5, .var 92 (c5 cut)), (0, .var 78 (hbm o0_B mf)), (1, .var 127 [.yld]), (2, .var 99 [.d (.fn 107)]), (3, .var 65 [.clo 89 [.agg (hbm m0_B mf_1)] []]), (4, .var 127 [.clo 112 [] [.ptr 0 0, .ptr 1 0, .ptr 2 0, .ptr 3 0, .ptr 4 0]])], 6, (fr_ s_), [], 5⟩ (by kernel_rfl) ?_
  refine RW.nil ?_
  refine hQ_3 _ ?_
  refine AW.cond rfl (fun hb_4 => ?_) (fun hb_4 => ?_)
  ·have h := ifT hb_4 h
   refine AW.srwK (fun Q_5 hQ_5 => ?_)
   refine RW.au fokW 3 [] ⟨[(24, .yld), (25, .d (.sl 1 (List.map e3 plan))), (26, .agg (c5 cut))], [(0, .var 78 (hbm o0_B mf)), (1, .var 127 [.yld]), (2, .var 99 [.d (.fn 107)]), (3, .var 65 [.clo 89 [.agg (hbm m0_B mf_1)] []]), (4, .var 127 [.clo 112 [] [.ptr 0 0, .ptr 1 0, .ptr 2 0, .ptr 3 0, .ptr 4 0]])], 6, (fr_ s_), [], 5⟩ (by kernel_rfl) ?_
   obtain ⟨⟨s_1, go⟩, hx_6, h⟩ := bsome h
   refine RW.one fokW (r_yield (zr := []) trivial rfl rfl (hc_ plan cut _ _ _ hx_6) trivial ⟨.refl _, .refl _, trivial⟩ rfl rfl rfl rfl (r_end ?_))
   refine RW.au fokW 1 [] ⟨[(9, .d (.bool go))], [(0, .var 78 (hbm o0_B mf)), (1, .var 127 [.yld]), (2, .var 99 [.d (.fn 107)]), (3, .var 65 [.clo 89 [.agg (hbm m0_B mf_1)] []]), (4, .var 127 [.clo 112 [] [.ptr 0 0, .ptr 1 0, .ptr 2 0, .ptr 3 0, .ptr 4 0]])], 6, (fr_ s_1), [], 5⟩ (by kernel_rfl) ?_
   refine RW.nil ?_
   refine hQ_5 _ ?_
   obtain rfl := Option.some.inj h
   exact AW.ret (hR_0 _ (retX (.cons (.tmp rfl) .nil) (.refl _) rfl (by kernel_rfl) (by kernel_rfl)))
  ·have h := ifF hb_4 h
   refine AW.skip ?_
   refine hK_2 _ ?_
   obtain ⟨need, hx_7, h⟩ := bsome h
   refine AW.jnSK (fun (need : Int) => ⟨[(0, .d (.sl 1 (List.map e3 plan))), (2, .ptr 0 0), (4, .ptr 2 0), (5, .ptr 3 0), (6, .ptr 4 0), (8, .ptr 5 0), (10, .d (I (plan.length : Int))), (11, .d (I need))], [(5, .var 92 (c5 cut)), (0, .var 78 (hbm o0_B mf)), (1, .var 127 [.yld]), (2, .var 99 [.d (.fn 107)]), (3, .var 65 [.clo 89 [.agg (hbm m0_B mf_1)] []]), (4, .var 127 [.clo 112 [] [.ptr 0 0, .ptr 1 0, .ptr 2 0, .ptr 3 0, .ptr 4 0]])], 6, (fr_ s_), [], 5⟩) (c := need) (fun K_7 hK_7 => ?_) ?_
   ·have h := hx_7
    refine AW.drw fokW ?_
    refine RunC.auX 2 ⟨[(0, .d (.sl 1 (List.map e3 plan))), (2, .ptr 0 0), (4, .ptr 2 0), (5, .ptr 3 0), (6, .ptr 4 0), (8, .ptr 5 0), (10, .d (I (plan.length : Int))), (29, .d (I ((plan.length : Int).tmod 2)))], [(5, .var 92 (c5 cut)), (0, .var 78 (hbm o0_B mf)), (1, .var 127 [.yld]), (2, .var 99 [.d (.fn 107)]), (3, .var 65 [.clo 89 [.agg (hbm m0_B mf_1)] []]), (4, .var 127 [.clo 112 [] [.ptr 0 0, .ptr 1 0, .ptr 2 0, .ptr 3 0, .ptr 4 0]])], 6, (fr_ s_), [], 5⟩ (by kernel_rfl) ?_
    obtain ⟨j, hv_9, h⟩ := bsome h
    rcases j with _ | _ | j
    ·refine r_iaF trivial rfl rfl (ixN_ok hv_9).1 (ixN_ok hv_9).2.1 ?_
     refine r_loadF trivial rfl (u := .fn 133) (by rw [(ixN_ok hv_9).2.2]; rfl) ?_
     refine RunC.auX 5 ⟨[(0, .d (.sl 1 (List.map e3 plan))), (2, .ptr 0 0), (4, .ptr 2 0), (5, .ptr 3 0), (6, .ptr 4 0), (8, .ptr 5 0), (10, .d (I (plan.length : Int))), (31, .d (.fn 133)), (34, .d (.sl 3 (List.map e69 o0_B.Horses))), (36, .d (I (wr ((plan.length : Int).tdiv 2))))], [(5, .var 92 (c5 cut)), (0, .var 78 (hbm o0_B mf)), (1, .var 127 [.yld]), (2, .var 99 [.d (.fn 107)]), (3, .var 65 [.clo 89 [.agg (hbm m0_B mf_1)] []]), (4, .var 127 [.clo 112 [] [.ptr 0 0, .ptr 1 0, .ptr 2 0, .ptr 3 0, .ptr 4 0]])], 6, (fr_ s_), [], 5⟩ (by kernel_rfl) ?_
     obtain ⟨p, hv_10, h⟩ := bsome h
     refine r_iaD trivial rfl rfl (ixL_ok hv_10).1 (row := e69 p) (mapget (ixL_ok hv_10).2) ?_
     refine RunC.auX 1 ⟨[(0, .d (.sl 1 (List.map e3 plan))), (2, .ptr 0 0), (4, .ptr 2 0), (5, .ptr 3 0), (6, .ptr 4 0), (8, .ptr 5 0), (10, .d (I (plan.length : Int))), (31, .d (.fn 133)), (38, .agg [.d (I p.Mane), .d (I p.Tail), .d (I p.Shade)])], [(5, .var 92 (c5 cut)), (0, .var 78 (hbm o0_B mf)), (1, .var 127 [.yld]), (2, .var 99 [.d (.fn 107)]), (3, .var 65 [.clo 89 [.agg (hbm m0_B mf_1)] []]), (4, .var 127 [.clo 112 [] [.ptr 0 0, .ptr 1 0, .ptr 2 0, .ptr 3 0, .ptr 4 0]])], 6, (fr_ s_), [], 5⟩ (by kernel_rfl) ?_
     obtain ⟨r0, hx_11, h⟩ := bsome h
     refine r_callvZ (zr := []) trivial rfl (.fn _) (by kernel_rfl) rfl (k133 p _ hx_11) trivial ⟨.refl _, trivial⟩ rfl rfl rfl rfl ?_
     refine RunC.auX 1 ⟨[(0, .d (.sl 1 (List.map e3 plan))), (2, .ptr 0 0), (4, .ptr 2 0), (5, .ptr 3 0), (6, .ptr 4 0), (8, .ptr 5 0), (10, .d (I (plan.length : Int))), (11, .d (I r0))], [(5, .var 92 (c5 cut)), (0, .var 78 (hbm o0_B mf)), (1, .var 127 [.yld]), (2, .var 99 [.d (.fn 107)]), (3, .var 65 [.clo 89 [.agg (hbm m0_B mf_1)] []]), (4, .var 127 [.clo 112 [] [.ptr 0 0, .ptr 1 0, .ptr 2 0, .ptr 3 0, .ptr 4 0]])], 6, (fr_ s_), [], 5⟩ (by kernel_rfl) ?_
     refine RunC.fin ⟨[(0, .d (.sl 1 (List.map e3 plan))), (2, .ptr 0 0), (4, .ptr 2 0), (5, .ptr 3 0), (6, .ptr 4 0), (8, .ptr 5 0), (10, .d (I (plan.length : Int))), (11, .d (I r0))], [(5, .var 92 (c5 cut)), (0, .var 78 (hbm o0_B mf)), (1, .var 127 [.yld]), (2, .var 99 [.d (.fn 107)]), (3, .var 65 [.clo 89 [.agg (hbm m0_B mf_1)] []]), (4, .var 127 [.clo 112 [] [.ptr 0 0, .ptr 1 0, .ptr 2 0, .ptr 3 0, .ptr 4 0]])], 6, (fr_ s_), [], 5⟩ (by kernel_rfl) (by kernel_rfl) ?_
     obtain rfl := Option.some.inj h
     exact hK_7 _ (Can.kp (by kernel_rfl))
    ·refine r_iaF trivial rfl rfl (ixN_ok hv_9).1 (ixN_ok hv_9).2.1 ?_
     refine r_loadF trivial rfl (u := .fn 135) (by rw [(ixN_ok hv_9).2.2]; rfl) ?_
     refine RunC.auX 5 ⟨[(0, .d (.sl 1 (List.map e3 plan))), (2, .ptr 0 0), (4, .ptr 2 0), (5, .ptr 3 0), (6, .ptr 4 0), (8, .ptr 5 0), (10, .d (I (plan.length : Int))), (31, .d (.fn 135)), (34, .d (.sl 3 (List.map e69 o0_B.Horses))), (36, .d (I (wr ((plan.length : Int).tdiv 2))))], [(5, .var 92 (c5 cut)), (0, .var 78 (hbm o0_B mf)), (1, .var 127 [.yld]), (2, .var 99 [.d (.fn 107)]), (3, .var 65 [.clo 89 [.agg (hbm m0_B mf_1)] []]), (4, .var 127 [.clo 112 [] [.ptr 0 0, .ptr 1 0, .ptr 2 0, .ptr 3 0, .ptr 4 0]])], 6, (fr_ s_), [], 5⟩ (by kernel_rfl) ?_
     obtain ⟨p1, hv_12, h⟩ := bsome h
     refine r_iaD trivial rfl rfl (ixL_ok hv_12).1 (row := e69 p1) (mapget (ixL_ok hv_12).2) ?_
     refine RunC.auX 1 ⟨[(0, .d (.sl 1 (List.map e3 plan))), (2, .ptr 0 0), (4, .ptr 2 0), (5, .ptr 3 0), (6, .ptr 4 0), (8, .ptr 5 0), (10, .d (I (plan.length : Int))), (31, .d (.fn 135)), (38, .agg [.d (I p1.Mane), .d (I p1.Tail), .d (I p1.Shade)])], [(5, .var 92 (c5 cut)), (0, .var 78 (hbm o0_B mf)), (1, .var 127 [.yld]), (2, .var 99 [.d (.fn 107)]), (3, .var 65 [.clo 89 [.agg (hbm m0_B mf_1)] []]), (4, .var 127 [.clo 112 [] [.ptr 0 0, .ptr 1 0, .ptr 2 0, .ptr 3 0, .ptr 4 0]])], 6, (fr_ s_), [], 5⟩ (by kernel_rfl) ?_
     obtain ⟨r0_1, hx_13, h⟩ := bsome h
     refine r_callvZ (zr := []) trivial rfl (.fn _) (by kernel_rfl) rfl (k135 p1 _ hx_13) trivial ⟨.refl _, trivial⟩ rfl rfl rfl rfl ?_
     refine RunC.auX 1 ⟨[(0, .d (.sl 1 (List.map e3 plan))), (2, .ptr 0 0), (4, .ptr 2 0), (5, .ptr 3 0), (6, .ptr 4 0), (8, .ptr 5 0), (10, .d (I (plan.length : Int))), (11, .d (I r0_1))], [(5, .var 92 (c5 cut)), (0, .var 78 (hbm o0_B mf)), (1, .var 127 [.yld]), (2, .var 99 [.d (.fn 107)]), (3, .var 65 [.clo 89 [.agg (hbm m0_B mf_1)] []]), (4, .var 127 [.clo 112 [] [.ptr 0 0, .ptr 1 0, .ptr 2 0, .ptr 3 0, .ptr 4 0]])], 6, (fr_ s_), [], 5⟩ (by kernel_rfl) ?_
     refine RunC.fin ⟨[(0, .d (.sl 1 (List.map e3 plan))), (2, .ptr 0 0), (4, .ptr 2 0), (5, .ptr 3 0), (6, .ptr 4 0), (8, .ptr 5 0), (10, .d (I (plan.length : Int))), (11, .d (I r0_1))], [(5, .var 92 (c5 cut)), (0, .var 78 (hbm o0_B mf)), (1, .var 127 [.yld]), (2, .var 99 [.d (.fn 107)]), (3, .var 65 [.clo 89 [.agg (hbm m0_B mf_1)] []]), (4, .var 127 [.clo 112 [] [.ptr 0 0, .ptr 1 0, .ptr 2 0, .ptr 3 0, .ptr 4 0]])], 6, (fr_ s_), [], 5⟩ (by kernel_rfl) (by kernel_rfl) ?_
     obtain rfl := Option.some.inj h
     exact hK_7 _ (Can.kp (by kernel_rfl))
    ·cases h
   ·refine AW.seq (AW.skip ?_)
    refine AW.seqK (fun K_14 hK_14 => ?_)
    refine AW.srwK (fun Q_15 hQ_15 => ?_)
    refine RW.au fokW 3 [] ⟨[(0, .d (.sl 1 (List.map e3 plan))), (4, .ptr 2 0), (5, .ptr 3 0), (6, .ptr 4 0), (8, .ptr 5 0), (10, .d (I (plan.length : Int))), (11, .d (I need)), (42, .d (.sl 4 (List.map e58 o0_B.Hanks)))], [(5, .var 92 (c5 cut)), (0, .var 78 (hbm o0_B mf)), (1, .var 127 [.yld]), (2, .var 99 [.d (.fn 107)]), (3, .var 65 [.clo 89 [.agg (hbm m0_B mf_1)] []]), (4, .var 127 [.clo 112 [] [.ptr 0 0, .ptr 1 0, .ptr 2 0, .ptr 3 0, .ptr 4 0]])], 6, (fr_ s_), [], 5⟩ (by kernel_rfl) ?_
    refine RW.one fokW (r_lenX trivial rfl lenm (r_end ?_))
    refine RW.au fokW 1 [] ⟨[(0, .d (.sl 1 (List.map e3 plan))), (4, .ptr 2 0), (5, .ptr 3 0), (6, .ptr 4 0), (8, .ptr 5 0), (10, .d (I (plan.length : Int))), (11, .d (I need)), (42, .d (.sl 4 (List.map e58 o0_B.Hanks))), (43, .d (I (o0_B.Hanks.length : Int))), (44, .d (I 0))], [(5, .var 92 (c5 cut)), (0, .var 78 (hbm o0_B mf)), (1, .var 127 [.yld]), (2, .var 99 [.d (.fn 107)]), (3, .var 65 [.clo 89 [.agg (hbm m0_B mf_1)] []]), (4, .var 127 [.clo 112 [] [.ptr 0 0, .ptr 1 0, .ptr 2 0, .ptr 3 0, .ptr 4 0]])], 6, (fr_ s_), [], 5⟩ (by kernel_rfl) ?_
    refine RW.nil ?_
    refine hQ_15 _ ?_
    refine AW.block ?_
    refine AW.sln (t := 42) rfl (fun hN_16 => ?_)
    rw [List.length_map] at hN_16
    obtain ⟨out_16, hx_16, hk_16⟩ := bsomeC h
    refine AW.evCK (fun (v : Int) (s_2 : S_) => ⟨[(0, .d (.sl 1 (List.map e3 plan))), (4, .ptr 2 0), (5, .ptr 3 0), (6, .ptr 4 0), (8, .ptr 5 0), (10, .d (I (plan.length : Int))), (11, .d (I need)), (42, .d (.sl 4 (List.map e58 o0_B.Hanks))), (43, .d (I (o0_B.Hanks.length : Int))), (44, .d (I v))], [(5, .var 92 (c5 cut)), (0, .var 78 (hbm o0_B mf)), (1, .var 127 [.yld]), (2, .var 99 [.d (.fn 107)]), (3, .var 65 [.clo 89 [.agg (hbm m0_B mf_1)] []]), (4, .var 127 [.clo 112 [] [.ptr 0 0, .ptr 1 0, .ptr 2 0, .ptr 3 0, .ptr 4 0]])], 6, (fr_ s_2), [], 5⟩) (g112_16 (g112 c_ n_) plan cut o0_B mf m0_B mf_1 need) hx_16 (Can.kp (by kernel_rfl)) (fun v p2 s_2 hi_16 hl_16 hp_16 c_16 h hb_16 K_16 hK_16 => ?_) (fun v s_2 hi_16 hl_16 hout => ?_)
    ·unfold g112_16 at h
     refine AW.sa fokW [] ⟨[(0, .d (.sl 1 (List.map e3 plan))), (4, .ptr 2 0), (5, .ptr 3 0), (6, .ptr 4 0), (8, .ptr 5 0), (10, .d (I (plan.length : Int))), (11, .d (I need)), (42, .d (.sl 4 (List.map e58 o0_B.Hanks))), (43, .d (I (o0_B.Hanks.length : Int))), (44, .d (I v)), (45, .d (.bool (decide (v < (o0_B.Hanks.length : Int)))))], [(5, .var 92 (c5 cut)), (0, .var 78 (hbm o0_B mf)), (1, .var 127 [.yld]), (2, .var 99 [.d (.fn 107)]), (3, .var 65 [.clo 89 [.agg (hbm m0_B mf_1)] []]), (4, .var 127 [.clo 112 [] [.ptr 0 0, .ptr 1 0, .ptr 2 0, .ptr 3 0, .ptr 4 0]])], 6, (fr_ s_2), [], 5⟩ (by kernel_rfl) ?_
     refine AW.seqK (fun K_17 hK_17 => ?_)
     refine AW.cond rfl (fun hb_18 => ?_) (fun hb_18 => False.elim (by have := of_decide_eq_false hb_18; omega))
     refine AW.skip ?_
     refine hK_17 _ ?_
     refine AW.seqK (fun K_19 hK_19 => ?_)
     refine AW.block ?_
     refine AW.srwK (fun Q_20 hQ_20 => ?_)
     refine RW.au fokW 1 [] ⟨[(0, .d (.sl 1 (List.map e3 plan))), (4, .ptr 2 0), (5, .ptr 3 0), (6, .ptr 4 0), (8, .ptr 5 0), (10, .d (I (plan.length : Int))), (11, .d (I need)), (42, .d (.sl 4 (List.map e58 o0_B.Hanks))), (43, .d (I (o0_B.Hanks.length : Int))), (44, .d (I v)), (46, .d (I v))], [(5, .var 92 (c5 cut)), (0, .var 78 (hbm o0_B mf)), (1, .var 127 [.yld]), (2, .var 99 [.d (.fn 107)]), (3, .var 65 [.clo 89 [.agg (hbm m0_B mf_1)] []]), (4, .var 127 [.clo 112 [] [.ptr 0 0, .ptr 1 0, .ptr 2 0, .ptr 3 0, .ptr 4 0]])], 6, (fr_ s_2), [], 5⟩ (by kernel_rfl) ?_
     refine RW.one fokW (r_iaD trivial rfl rfl hi_16 (row := e58 p2) (mapget hp_16) (r_end ?_))
     refine RW.au fokW 4 [] ⟨[(0, .d (.sl 1 (List.map e3 plan))), (4, .ptr 2 0), (5, .ptr 3 0), (6, .ptr 4 0), (8, .ptr 5 0), (10, .d (I (plan.length : Int))), (11, .d (I need)), (12, .d (I v)), (13, .ptr 6 0), (42, .d (.sl 4 (List.map e58 o0_B.Hanks))), (43, .d (I (o0_B.Hanks.length : Int))), (44, .d (I v))], [(6, .var 58 (cv58 p2)), (5, .var 92 (c5 cut)), (0, .var 78 (hbm o0_B mf)), (1, .var 127 [.yld]), (2, .var 99 [.d (.fn 107)]), (3, .var 65 [.clo 89 [.agg (hbm m0_B mf_1)] []]), (4, .var 127 [.clo 112 [] [.ptr 0 0, .ptr 1 0, .ptr 2 0, .ptr 3 0, .ptr 4 0]])], 7, (fr_ s_2), [], 5⟩ (by kernel_rfl) ?_
     refine RW.nil ?_
     refine hQ_20 _ ?_
     obtain ⟨c_21, hx_21, hk_21⟩ := bsomeC h
     refine AW.jnK (fun (_ : Unit) => ⟨[(0, .d (.sl 1 (List.map e3 plan))), (4, .ptr 2 0), (5, .ptr 3 0), (6, .ptr 4 0), (8, .ptr 5 0), (10, .d (I (plan.length : Int))), (11, .d (I need)), (12, .d (I v)), (42, .d (.sl 4 (List.map e58 o0_B.Hanks))), (43, .d (I (o0_B.Hanks.length : Int))), (44, .d (I v))], [(5, .var 92 (c5 cut)), (0, .var 78 (hbm o0_B mf)), (1, .var 127 [.yld]), (2, .var 99 [.d (.fn 107)]), (3, .var 65 [.clo 89 [.agg (hbm m0_B mf_1)] []]), (4, .var 127 [.clo 112 [] [.ptr 0 0, .ptr 1 0, .ptr 2 0, .ptr 3 0, .ptr 4 0]])], 7, (fr_ s_2), [], 5⟩) (c := c_21) (fun K_21 hK_21 => ?_) (fun j_21 hj_21 => ?_)
     ·have h := hx_21
      refine AW.sdrwK fokW (fun Q_22 hQ_22 => ?_)
      refine RunC.auX 1 ⟨[(0, .d (.sl 1 (List.map e3 plan))), (4, .ptr 2 0), (5, .ptr 3 0), (6, .ptr 4 0), (8, .ptr 5 0), (10, .d (I (plan.length : Int))), (11, .d (I need)), (12, .d (I v)), (13, .ptr 6 0), (42, .d (.sl 4 (List.map e58 o0_B.Hanks))), (43, .d (I (o0_B.Hanks.length : Int))), (44, .d (I v)), (49, .d (I v))], [(6, .var 58 (cv58 p2)), (5, .var 92 (c5 cut)), (0, .var 78 (hbm o0_B mf)), (1, .var 127 [.yld]), (2, .var 99 [.d (.fn 107)]), (3, .var 65 [.clo 89 [.agg (hbm m0_B mf_1)] []]), (4, .var 127 [.clo 112 [] [.ptr 0 0, .ptr 1 0, .ptr 2 0, .ptr 3 0, .ptr 4 0]])], 7, (fr_ s_2), [], 5⟩ (by kernel_rfl) ?_
      obtain ⟨j1, hv_23, h⟩ := bsome h
      refine r_iaV trivial rfl rfl rfl (ixN_ok hv_23).1 (ixN_ok hv_23).2.1 ?_
      refine r_loadV trivial rfl rfl (u := .d (I (cut j1))) (agt (f := fun k => .d (I (cut k))) hv_23) ?_
      refine RunC.auX 6 ⟨[(0, .d (.sl 1 (List.map e3 plan))), (4, .ptr 2 0), (5, .ptr 3 0), (6, .ptr 4 0), (8, .ptr 5 0), (10, .d (I (plan.length : Int))), (11, .d (I need)), (12, .d (I v)), (42, .d (.sl 4 (List.map e58 o0_B.Hanks))), (43, .d (I (o0_B.Hanks.length : Int))), (44, .d (I v)), (53, .d (I (wr ((cut j1) + need)))), (55, .d (.fn 107)), (57, .agg [.d (I p2.Weight.Low), .d (I p2.Weight.High)])], [(6, .var 58 (cv58 p2)), (5, .var 92 (c5 cut)), (0, .var 78 (hbm o0_B mf)), (1, .var 127 [.yld]), (2, .var 99 [.d (.fn 107)]), (3, .var 65 [.clo 89 [.agg (hbm m0_B mf_1)] []]), (4, .var 127 [.clo 112 [] [.ptr 0 0, .ptr 1 0, .ptr 2 0, .ptr 3 0, .ptr 4 0]])], 7, (fr_ s_2), [], 5⟩ (by kernel_rfl) ?_
      obtain ⟨r0_2, hx_24, h⟩ := bsome h
      refine r_callvZ (zr := []) trivial rfl (.fn _) (by kernel_rfl) rfl (k107 p2.Weight _ hx_24) trivial ⟨.refl _, trivial⟩ rfl rfl rfl rfl ?_
      refine RunC.auX 2 ⟨[(0, .d (.sl 1 (List.map e3 plan))), (4, .ptr 2 0), (5, .ptr 3 0), (6, .ptr 4 0), (8, .ptr 5 0), (10, .d (I (plan.length : Int))), (11, .d (I need)), (12, .d (I v)), (42, .d (.sl 4 (List.map e58 o0_B.Hanks))), (43, .d (I (o0_B.Hanks.length : Int))), (44, .d (I v)), (60, .d (.bool (decide (r0_2 < (wr ((cut j1) + need))))))], [(6, .var 58 (cv58 p2)), (5, .var 92 (c5 cut)), (0, .var 78 (hbm o0_B mf)), (1, .var 127 [.yld]), (2, .var 99 [.d (.fn 107)]), (3, .var 65 [.clo 89 [.agg (hbm m0_B mf_1)] []]), (4, .var 127 [.clo 112 [] [.ptr 0 0, .ptr 1 0, .ptr 2 0, .ptr 3 0, .ptr 4 0]])], 7, (fr_ s_2), [], 5⟩ (by kernel_rfl) ?_
      refine r_split 60 rfl (fun hb_25 => ?_) (fun hb_25 => ?_)
      ·have h := ifT hb_25 h
       refine RunC.auX 17 ⟨[(0, .d (.sl 1 (List.map e3 plan))), (4, .ptr 2 0), (5, .ptr 3 0), (6, .ptr 4 0), (8, .ptr 5 0), (10, .d (I (plan.length : Int))), (11, .d (I need)), (12, .d (I v)), (42, .d (.sl 4 (List.map e58 o0_B.Hanks))), (43, .d (I (o0_B.Hanks.length : Int))), (44, .d (I v)), (77, .d (.bool true))], [(6, .var 58 (cv58 p2)), (5, .var 92 (c5 cut)), (0, .var 78 (hbm o0_B mf)), (1, .var 127 [.yld]), (2, .var 99 [.d (.fn 107)]), (3, .var 65 [.clo 89 [.agg (hbm m0_B mf_1)] []]), (4, .var 127 [.clo 112 [] [.ptr 0 0, .ptr 1 0, .ptr 2 0, .ptr 3 0, .ptr 4 0]])], 7, (fr_ s_2), [], 5⟩ (by kernel_rfl) ?_
       refine RunC.fin ⟨[(0, .d (.sl 1 (List.map e3 plan))), (4, .ptr 2 0), (5, .ptr 3 0), (6, .ptr 4 0), (8, .ptr 5 0), (10, .d (I (plan.length : Int))), (11, .d (I need)), (12, .d (I v)), (42, .d (.sl 4 (List.map e58 o0_B.Hanks))), (43, .d (I (o0_B.Hanks.length : Int))), (44, .d (I v)), (77, .d (.bool true))], [(5, .var 92 (c5 cut)), (0, .var 78 (hbm o0_B mf)), (1, .var 127 [.yld]), (2, .var 99 [.d (.fn 107)]), (3, .var 65 [.clo 89 [.agg (hbm m0_B mf_1)] []]), (4, .var 127 [.clo 112 [] [.ptr 0 0, .ptr 1 0, .ptr 2 0, .ptr 3 0, .ptr 4 0]])], 7, (fr_ s_2), [], 5⟩ (by kernel_rfl) (by kernel_rfl) ?_
       refine hQ_22 _ ?_
       refine AW.condT rfl ?_
       refine AW.exit ?_
       refine hK_19 _ ?_
       refine AW.ra fokW [] ⟨[(0, .d (.sl 1 (List.map e3 plan))), (4, .ptr 2 0), (5, .ptr 3 0), (6, .ptr 4 0), (8, .ptr 5 0), (10, .d (I (plan.length : Int))), (11, .d (I need)), (42, .d (.sl 4 (List.map e58 o0_B.Hanks))), (43, .d (I (o0_B.Hanks.length : Int))), (44, .d (I (wr (v + 1))))], [(5, .var 92 (c5 cut)), (0, .var 78 (hbm o0_B mf)), (1, .var 127 [.yld]), (2, .var 99 [.d (.fn 107)]), (3, .var 65 [.clo 89 [.agg (hbm m0_B mf_1)] []]), (4, .var 127 [.clo 112 [] [.ptr 0 0, .ptr 1 0, .ptr 2 0, .ptr 3 0, .ptr 4 0]])], 7, (fr_ s_2), [], 5⟩ (by kernel_rfl) ?_
       obtain rfl := Option.some.inj h
       obtain rfl := Aft.bk hk_21
       have ew : wr (v + 1) = v + 1 := inext (N := (o0_B.Hanks.length : Int)) (by omega) (by omega) (by omega)
       rw [ew]
       exact hK_16 _ _ rfl (Can.kp (by kernel_rfl))
      ·have h := ifF hb_25 h
       refine RunC.auX 4 ⟨[(0, .d (.sl 1 (List.map e3 plan))), (4, .ptr 2 0), (5, .ptr 3 0), (6, .ptr 4 0), (8, .ptr 5 0), (10, .d (I (plan.length : Int))), (11, .d (I need)), (12, .d (I v)), (42, .d (.sl 4 (List.map e58 o0_B.Hanks))), (43, .d (I (o0_B.Hanks.length : Int))), (44, .d (I v)), (60, .d (.bool false)), (64, .d (.bool (decide (((plan.length : Int).tmod 2) = 1))))], [(6, .var 58 (cv58 p2)), (5, .var 92 (c5 cut)), (0, .var 78 (hbm o0_B mf)), (1, .var 127 [.yld]), (2, .var 99 [.d (.fn 107)]), (3, .var 65 [.clo 89 [.agg (hbm m0_B mf_1)] []]), (4, .var 127 [.clo 112 [] [.ptr 0 0, .ptr 1 0, .ptr 2 0, .ptr 3 0, .ptr 4 0]])], 7, (fr_ s_2), [], 5⟩ (by kernel_rfl) ?_
       refine r_split 64 rfl (fun hb_26 => ?_) (fun hb_26 => ?_)
       ·have h := ifT hb_26 h
        refine RunC.auX 6 ⟨[(0, .d (.sl 1 (List.map e3 plan))), (4, .ptr 2 0), (5, .ptr 3 0), (6, .ptr 4 0), (8, .ptr 5 0), (10, .d (I (plan.length : Int))), (11, .d (I need)), (12, .d (I v)), (42, .d (.sl 4 (List.map e58 o0_B.Hanks))), (43, .d (I (o0_B.Hanks.length : Int))), (44, .d (I v)), (60, .d (.bool false)), (64, .d (.bool true)), (65, .clo 89 [.agg (hbm m0_B mf_1)] []), (67, .d (I (wr ((plan.length : Int).tdiv 2)))), (68, .d (.sl 1 (List.map e3 plan))), (70, .d (I (wr ((plan.length : Int) - 1))))], [(6, .var 58 (cv58 p2)), (5, .var 92 (c5 cut)), (0, .var 78 (hbm o0_B mf)), (1, .var 127 [.yld]), (2, .var 99 [.d (.fn 107)]), (3, .var 65 [.clo 89 [.agg (hbm m0_B mf_1)] []]), (4, .var 127 [.clo 112 [] [.ptr 0 0, .ptr 1 0, .ptr 2 0, .ptr 3 0, .ptr 4 0]])], 7, (fr_ s_2), [], 5⟩ (by kernel_rfl) ?_
        obtain ⟨p3, hv_27, h⟩ := bsome h
        refine r_iaD rfl rfl rfl (ixL_ok hv_27).1 (row := e3 p3) (mapget (ixL_ok hv_27).2) ?_
        refine RunC.auX 2 ⟨[(0, .d (.sl 1 (List.map e3 plan))), (4, .ptr 2 0), (5, .ptr 3 0), (6, .ptr 4 0), (8, .ptr 5 0), (10, .d (I (plan.length : Int))), (11, .d (I need)), (12, .d (I v)), (42, .d (.sl 4 (List.map e58 o0_B.Hanks))), (43, .d (I (o0_B.Hanks.length : Int))), (44, .d (I v)), (60, .d (.bool false)), (64, .d (.bool true)), (65, .clo 89 [.agg (hbm m0_B mf_1)] []), (67, .d (I (wr ((plan.length : Int).tdiv 2)))), (72, .d (I p3)), (73, .d (I v))], [(6, .var 58 (cv58 p2)), (5, .var 92 (c5 cut)), (0, .var 78 (hbm o0_B mf)), (1, .var 127 [.yld]), (2, .var 99 [.d (.fn 107)]), (3, .var 65 [.clo 89 [.agg (hbm m0_B mf_1)] []]), (4, .var 127 [.clo 112 [] [.ptr 0 0, .ptr 1 0, .ptr 2 0, .ptr 3 0, .ptr 4 0]])], 7, (fr_ s_2), [], 5⟩ (by kernel_rfl) ?_
        obtain ⟨r0_3, hx_28, h⟩ := bsome h
        refine r_callvZ (zr := []) rfl rfl (.clo _ _ _) (by kernel_rfl) rfl (k89 m0_B mf_1 (wr ((plan.length : Int).tdiv 2)) p3 v _ hx_28) trivial ⟨.refl _, .refl _, .refl _, .refl _, trivial⟩ rfl rfl rfl rfl ?_
        refine RunC.auX 3 ⟨[(0, .d (.sl 1 (List.map e3 plan))), (4, .ptr 2 0), (5, .ptr 3 0), (6, .ptr 4 0), (8, .ptr 5 0), (10, .d (I (plan.length : Int))), (11, .d (I need)), (12, .d (I v)), (42, .d (.sl 4 (List.map e58 o0_B.Hanks))), (43, .d (I (o0_B.Hanks.length : Int))), (44, .d (I v)), (77, .d (.bool (!r0_3)))], [(6, .var 58 (cv58 p2)), (5, .var 92 (c5 cut)), (0, .var 78 (hbm o0_B mf)), (1, .var 127 [.yld]), (2, .var 99 [.d (.fn 107)]), (3, .var 65 [.clo 89 [.agg (hbm m0_B mf_1)] []]), (4, .var 127 [.clo 112 [] [.ptr 0 0, .ptr 1 0, .ptr 2 0, .ptr 3 0, .ptr 4 0]])], 7, (fr_ s_2), [], 5⟩ (by kernel_rfl) ?_
        refine RunC.fin ⟨[(0, .d (.sl 1 (List.map e3 plan))), (4, .ptr 2 0), (5, .ptr 3 0), (6, .ptr 4 0), (8, .ptr 5 0), (10, .d (I (plan.length : Int))), (11, .d (I need)), (12, .d (I v)), (42, .d (.sl 4 (List.map e58 o0_B.Hanks))), (43, .d (I (o0_B.Hanks.length : Int))), (44, .d (I v)), (77, .d (.bool (!r0_3)))], [(5, .var 92 (c5 cut)), (0, .var 78 (hbm o0_B mf)), (1, .var 127 [.yld]), (2, .var 99 [.d (.fn 107)]), (3, .var 65 [.clo 89 [.agg (hbm m0_B mf_1)] []]), (4, .var 127 [.clo 112 [] [.ptr 0 0, .ptr 1 0, .ptr 2 0, .ptr 3 0, .ptr 4 0]])], 7, (fr_ s_2), [], 5⟩ (by kernel_rfl) (by kernel_rfl) ?_
        refine hQ_22 _ ?_
        refine AW.cond rfl (fun hb_29 => ?_) (fun hb_29 => ?_)
        ·have h := ifT hb_29 h
         refine AW.exit ?_
         refine hK_19 _ ?_
         refine AW.ra fokW [] ⟨[(0, .d (.sl 1 (List.map e3 plan))), (4, .ptr 2 0), (5, .ptr 3 0), (6, .ptr 4 0), (8, .ptr 5 0), (10, .d (I (plan.length : Int))), (11, .d (I need)), (42, .d (.sl 4 (List.map e58 o0_B.Hanks))), (43, .d (I (o0_B.Hanks.length : Int))), (44, .d (I (wr (v + 1))))], [(5, .var 92 (c5 cut)), (0, .var 78 (hbm o0_B mf)), (1, .var 127 [.yld]), (2, .var 99 [.d (.fn 107)]), (3, .var 65 [.clo 89 [.agg (hbm m0_B mf_1)] []]), (4, .var 127 [.clo 112 [] [.ptr 0 0, .ptr 1 0, .ptr 2 0, .ptr 3 0, .ptr 4 0]])], 7, (fr_ s_2), [], 5⟩ (by kernel_rfl) ?_
         obtain rfl := Option.some.inj h
         obtain rfl := Aft.bk hk_21
         have ew : wr (v + 1) = v + 1 := inext (N := (o0_B.Hanks.length : Int)) (by omega) (by omega) (by omega)
         rw [ew]
         exact hK_16 _ _ rfl (Can.kp (by kernel_rfl))
        ·have h := ifF hb_29 h
         refine AW.skip ?_
         obtain rfl := Option.some.inj h
         exact hK_21 _ _ rfl (Can.kp (by kernel_rfl))
       ·have h := ifF hb_26 h
        refine RunC.auX 13 ⟨[(0, .d (.sl 1 (List.map e3 plan))), (4, .ptr 2 0), (5, .ptr 3 0), (6, .ptr 4 0), (8, .ptr 5 0), (10, .d (I (plan.length : Int))), (11, .d (I need)), (12, .d (I v)), (42, .d (.sl 4 (List.map e58 o0_B.Hanks))), (43, .d (I (o0_B.Hanks.length : Int))), (44, .d (I v)), (77, .d (.bool false))], [(6, .var 58 (cv58 p2)), (5, .var 92 (c5 cut)), (0, .var 78 (hbm o0_B mf)), (1, .var 127 [.yld]), (2, .var 99 [.d (.fn 107)]), (3, .var 65 [.clo 89 [.agg (hbm m0_B mf_1)] []]), (4, .var 127 [.clo 112 [] [.ptr 0 0, .ptr 1 0, .ptr 2 0, .ptr 3 0, .ptr 4 0]])], 7, (fr_ s_2), [], 5⟩ (by kernel_rfl) ?_
        refine RunC.fin ⟨[(0, .d (.sl 1 (List.map e3 plan))), (4, .ptr 2 0), (5, .ptr 3 0), (6, .ptr 4 0), (8, .ptr 5 0), (10, .d (I (plan.length : Int))), (11, .d (I need)), (12, .d (I v)), (42, .d (.sl 4 (List.map e58 o0_B.Hanks))), (43, .d (I (o0_B.Hanks.length : Int))), (44, .d (I v)), (77, .d (.bool false))], [(5, .var 92 (c5 cut)), (0, .var 78 (hbm o0_B mf)), (1, .var 127 [.yld]), (2, .var 99 [.d (.fn 107)]), (3, .var 65 [.clo 89 [.agg (hbm m0_B mf_1)] []]), (4, .var 127 [.clo 112 [] [.ptr 0 0, .ptr 1 0, .ptr 2 0, .ptr 3 0, .ptr 4 0]])], 7, (fr_ s_2), [], 5⟩ (by kernel_rfl) (by kernel_rfl) ?_
        refine hQ_22 _ ?_
        refine AW.condF rfl ?_
        refine AW.skip ?_
        obtain rfl := Option.some.inj h
        exact hK_21 _ _ rfl (Can.kp (by kernel_rfl))
     ·subst hj_21
      have h := Aft.nx hk_21
      refine AW.sa fokW [] ⟨[(0, .d (.sl 1 (List.map e3 plan))), (4, .ptr 2 0), (5, .ptr 3 0), (6, .ptr 4 0), (8, .ptr 5 0), (10, .d (I (plan.length : Int))), (11, .d (I need)), (12, .d (I v)), (14, .ptr 7 0), (42, .d (.sl 4 (List.map e58 o0_B.Hanks))), (43, .d (I (o0_B.Hanks.length : Int))), (44, .d (I v))], [(7, .var 92 (c5 cut)), (5, .var 92 (c5 cut)), (0, .var 78 (hbm o0_B mf)), (1, .var 127 [.yld]), (2, .var 99 [.d (.fn 107)]), (3, .var 65 [.clo 89 [.agg (hbm m0_B mf_1)] []]), (4, .var 127 [.clo 112 [] [.ptr 0 0, .ptr 1 0, .ptr 2 0, .ptr 3 0, .ptr 4 0]])], 8, (fr_ s_2), [], 5⟩ (by kernel_rfl) ?_
      refine AW.srwK (fun Q_30 hQ_30 => ?_)
      refine RW.au fokW 1 [] ⟨[(0, .d (.sl 1 (List.map e3 plan))), (4, .ptr 2 0), (5, .ptr 3 0), (6, .ptr 4 0), (8, .ptr 5 0), (10, .d (I (plan.length : Int))), (11, .d (I need)), (12, .d (I v)), (14, .ptr 7 0), (42, .d (.sl 4 (List.map e58 o0_B.Hanks))), (43, .d (I (o0_B.Hanks.length : Int))), (44, .d (I v)), (79, .d (I v))], [(7, .var 92 (c5 cut)), (5, .var 92 (c5 cut)), (0, .var 78 (hbm o0_B mf)), (1, .var 127 [.yld]), (2, .var 99 [.d (.fn 107)]), (3, .var 65 [.clo 89 [.agg (hbm m0_B mf_1)] []]), (4, .var 127 [.clo 112 [] [.ptr 0 0, .ptr 1 0, .ptr 2 0, .ptr 3 0, .ptr 4 0]])], 8, (fr_ s_2), [], 5⟩ (by kernel_rfl) ?_
      obtain ⟨j2, hv_31, h⟩ := bsome h
      refine RW.one fokW (r_iaV trivial rfl rfl rfl (ixN_ok hv_31).1 (ixN_ok hv_31).2.1 (r_end ?_))
      refine RW.one fokW (r_loadV trivial rfl rfl (u := .d (I (cut j2))) (agt (f := fun k => .d (I (cut k))) hv_31) (r_end ?_))
      refine RW.au fokW 2 [] ⟨[(0, .d (.sl 1 (List.map e3 plan))), (4, .ptr 2 0), (5, .ptr 3 0), (6, .ptr 4 0), (8, .ptr 5 0), (10, .d (I (plan.length : Int))), (11, .d (I need)), (12, .d (I v)), (14, .ptr 7 0), (42, .d (.sl 4 (List.map e58 o0_B.Hanks))), (43, .d (I (o0_B.Hanks.length : Int))), (44, .d (I v)), (79, .d (I v)), (83, .d (I (wr ((cut j2) + need))))], [(7, .var 92 (c5 cut)), (5, .var 92 (c5 cut)), (0, .var 78 (hbm o0_B mf)), (1, .var 127 [.yld]), (2, .var 99 [.d (.fn 107)]), (3, .var 65 [.clo 89 [.agg (hbm m0_B mf_1)] []]), (4, .var 127 [.clo 112 [] [.ptr 0 0, .ptr 1 0, .ptr 2 0, .ptr 3 0, .ptr 4 0]])], 8, (fr_ s_2), [], 5⟩ (by kernel_rfl) ?_
      obtain ⟨j3, hv_32, h⟩ := bsome h
      refine RW.one fokW (r_iaV trivial rfl rfl rfl (ixN_ok hv_32).1 (ixN_ok hv_32).2.1 (r_end ?_))
      refine RW.one fokW (r_stX trivial rfl rfl rfl rfl rfl (aslot hv_32 rfl) (cs' := [.d (I ((aset cut j3 (wr ((cut j2) + need))) 0)), .d (I ((aset cut j3 (wr ((cut j2) + need))) 1)), .d (I ((aset cut j3 (wr ((cut j2) + need))) 2)), .d (I ((aset cut j3 (wr ((cut j2) + need))) 3)), .d (I ((aset cut j3 (wr ((cut j2) + need))) 4))]) (ast (w := cut) (c := fun z => .d (I z)) hv_32) (r_end ?_))
      refine RW.nil ?_
      refine hQ_30 _ ?_
      refine AW.sdrwK fokW (fun Q_33 hQ_33 => ?_)
      refine RunC.auX 4 ⟨[(0, .d (.sl 1 (List.map e3 plan))), (4, .ptr 2 0), (5, .ptr 3 0), (6, .ptr 4 0), (8, .ptr 5 0), (10, .d (I (plan.length : Int))), (11, .d (I need)), (12, .d (I v)), (14, .ptr 7 0), (42, .d (.sl 4 (List.map e58 o0_B.Hanks))), (43, .d (I (o0_B.Hanks.length : Int))), (44, .d (I v)), (85, .clo 112 [] [.ptr 0 0, .ptr 1 0, .ptr 2 0, .ptr 3 0, .ptr 4 0]), (86, .d (.sl 1 (List.map e3 plan))), (87, .d (I (plan.length : Int))), (88, .d (I (plan.length : Int)))], [(7, .var 92 [.d (I ((aset cut j3 (wr ((cut j2) + need))) 0)), .d (I ((aset cut j3 (wr ((cut j2) + need))) 1)), .d (I ((aset cut j3 (wr ((cut j2) + need))) 2)), .d (I ((aset cut j3 (wr ((cut j2) + need))) 3)), .d (I ((aset cut j3 (wr ((cut j2) + need))) 4))]), (5, .var 92 (c5 cut)), (0, .var 78 (hbm o0_B mf)), (1, .var 127 [.yld]), (2, .var 99 [.d (.fn 107)]), (3, .var 65 [.clo 89 [.agg (hbm m0_B mf_1)] []]), (4, .var 127 [.clo 112 [] [.ptr 0 0, .ptr 1 0, .ptr 2 0, .ptr 3 0, .ptr 4 0]])], 8, (fr_ s_2), [], 5⟩ (by kernel_rfl) ?_
      obtain ⟨l, hv_34, h⟩ := bsome h
      refine r_slN trivial rfl rfl rfl DSl.d (slcL_ok hv_34).2.1 (by rw [List.length_map]; exact (slcL_ok hv_34).2.2.1) rfl (slz hv_34 e3) ?_
      refine RunC.auX 2 ⟨[(0, .d (.sl 1 (List.map e3 plan))), (4, .ptr 2 0), (5, .ptr 3 0), (6, .ptr 4 0), (8, .ptr 5 0), (10, .d (I (plan.length : Int))), (11, .d (I need)), (14, .ptr 7 0), (42, .d (.sl 4 (List.map e58 o0_B.Hanks))), (43, .d (I (o0_B.Hanks.length : Int))), (44, .d (I v)), (85, .clo 112 [] [.ptr 0 0, .ptr 1 0, .ptr 2 0, .ptr 3 0, .ptr 4 0]), (89, .fsl 1 (List.map e3 l)), (91, .own 8 (List.map e3 [v]).length)], [(8, .row 3 1 (List.map e3 [v])), (7, .var 92 [.d (I ((aset cut j3 (wr ((cut j2) + need))) 0)), .d (I ((aset cut j3 (wr ((cut j2) + need))) 1)), .d (I ((aset cut j3 (wr ((cut j2) + need))) 2)), .d (I ((aset cut j3 (wr ((cut j2) + need))) 3)), .d (I ((aset cut j3 (wr ((cut j2) + need))) 4))]), (5, .var 92 (c5 cut)), (0, .var 78 (hbm o0_B mf)), (1, .var 127 [.yld]), (2, .var 99 [.d (.fn 107)]), (3, .var 65 [.clo 89 [.agg (hbm m0_B mf_1)] []]), (4, .var 127 [.clo 112 [] [.ptr 0 0, .ptr 1 0, .ptr 2 0, .ptr 3 0, .ptr 4 0]])], 9, (fr_ s_2), [], 5⟩ (by kernel_rfl) ?_
      obtain ⟨l1, hv_35, h⟩ := bsome h
      refine r_apF trivial rfl rfl rfl rfl (by simp) (zs := List.map e3 l1) (apz hv_35 e3) (apr hv_35 e3) ?_
      refine RunC.auX 1 ⟨[(0, .d (.sl 1 (List.map e3 plan))), (4, .ptr 2 0), (5, .ptr 3 0), (6, .ptr 4 0), (8, .ptr 5 0), (10, .d (I (plan.length : Int))), (11, .d (I need)), (42, .d (.sl 4 (List.map e58 o0_B.Hanks))), (43, .d (I (o0_B.Hanks.length : Int))), (44, .d (I v)), (85, .clo 112 [] [.ptr 0 0, .ptr 1 0, .ptr 2 0, .ptr 3 0, .ptr 4 0]), (92, .own 9 (List.map e3 l1).length), (93, .agg [.d (I ((aset cut j3 (wr ((cut j2) + need))) 0)), .d (I ((aset cut j3 (wr ((cut j2) + need))) 1)), .d (I ((aset cut j3 (wr ((cut j2) + need))) 2)), .d (I ((aset cut j3 (wr ((cut j2) + need))) 3)), .d (I ((aset cut j3 (wr ((cut j2) + need))) 4))])], [(9, .row 3 1 (List.map e3 l1)), (8, .row 3 1 (List.map e3 [v])), (7, .var 92 [.d (I ((aset cut j3 (wr ((cut j2) + need))) 0)), .d (I ((aset cut j3 (wr ((cut j2) + need))) 1)), .d (I ((aset cut j3 (wr ((cut j2) + need))) 2)), .d (I ((aset cut j3 (wr ((cut j2) + need))) 3)), .d (I ((aset cut j3 (wr ((cut j2) + need))) 4))]), (5, .var 92 (c5 cut)), (0, .var 78 (hbm o0_B mf)), (1, .var 127 [.yld]), (2, .var 99 [.d (.fn 107)]), (3, .var 65 [.clo 89 [.agg (hbm m0_B mf_1)] []]), (4, .var 127 [.clo 112 [] [.ptr 0 0, .ptr 1 0, .ptr 2 0, .ptr 3 0, .ptr 4 0]])], 10, (fr_ s_2), [], 5⟩ (by kernel_rfl) ?_
      obtain ⟨⟨r0_7_1, s_5_1⟩, hx_36, h⟩ := bsome h
      refine r_callvS (zr := [(9, .row 3 1 (List.map e3 l1))]) [0, 1, 2, 3, 4] trivial rfl (.clo _ _ _) (by kernel_rfl) rfl (ih l1 (aset cut j3 (wr ((cut j2) + need))) o0_B mf m0_B mf_1 s_2 _ hx_36) ⟨rfl, rfl, rfl, rfl, rfl, rfl, trivial⟩ rfl rfl ⟨(.own rfl rfl), .refl _, .refl _, .refl _, .refl _, .refl _, .refl _, trivial⟩ rfl rfl rfl ?_
      refine RunC.auX 1 ⟨[(0, .d (.sl 1 (List.map e3 plan))), (4, .ptr 2 0), (5, .ptr 3 0), (6, .ptr 4 0), (8, .ptr 5 0), (10, .d (I (plan.length : Int))), (11, .d (I need)), (42, .d (.sl 4 (List.map e58 o0_B.Hanks))), (43, .d (I (o0_B.Hanks.length : Int))), (44, .d (I v)), (95, .d (.bool (!r0_7_1)))], [(0, .var 78 (hbm o0_B mf)), (1, .var 127 [.yld]), (2, .var 99 [.d (.fn 107)]), (3, .var 65 [.clo 89 [.agg (hbm m0_B mf_1)] []]), (4, .var 127 [.clo 112 [] [.ptr 0 0, .ptr 1 0, .ptr 2 0, .ptr 3 0, .ptr 4 0]]), (9, .dead), (8, .row 3 1 (List.map e3 [v])), (7, .var 92 [.d (I ((aset cut j3 (wr ((cut j2) + need))) 0)), .d (I ((aset cut j3 (wr ((cut j2) + need))) 1)), .d (I ((aset cut j3 (wr ((cut j2) + need))) 2)), .d (I ((aset cut j3 (wr ((cut j2) + need))) 3)), .d (I ((aset cut j3 (wr ((cut j2) + need))) 4))]), (5, .var 92 (c5 cut))], 10, (fr_ s_5_1), [], 5⟩ (by kernel_rfl) ?_
      refine RunC.fin ⟨[(0, .d (.sl 1 (List.map e3 plan))), (4, .ptr 2 0), (5, .ptr 3 0), (6, .ptr 4 0), (8, .ptr 5 0), (10, .d (I (plan.length : Int))), (11, .d (I need)), (42, .d (.sl 4 (List.map e58 o0_B.Hanks))), (43, .d (I (o0_B.Hanks.length : Int))), (44, .d (I v)), (95, .d (.bool (!r0_7_1)))], [(0, .var 78 (hbm o0_B mf)), (1, .var 127 [.yld]), (2, .var 99 [.d (.fn 107)]), (3, .var 65 [.clo 89 [.agg (hbm m0_B mf_1)] []]), (4, .var 127 [.clo 112 [] [.ptr 0 0, .ptr 1 0, .ptr 2 0, .ptr 3 0, .ptr 4 0]]), (5, .var 92 (c5 cut))], 10, (fr_ s_5_1), [], 5⟩ (by kernel_rfl) (by kernel_rfl) ?_
      refine hQ_33 _ ?_
      refine AW.cond rfl (fun hb_37 => ?_) (fun hb_37 => ?_)
      ·have h := ifT hb_37 h
       refine AW.sa fokW [] ⟨[(9, .d (.bool false))], [(0, .var 78 (hbm o0_B mf)), (1, .var 127 [.yld]), (2, .var 99 [.d (.fn 107)]), (3, .var 65 [.clo 89 [.agg (hbm m0_B mf_1)] []]), (4, .var 127 [.clo 112 [] [.ptr 0 0, .ptr 1 0, .ptr 2 0, .ptr 3 0, .ptr 4 0]])], 10, (fr_ s_5_1), [], 5⟩ (by kernel_rfl) ?_
       obtain rfl := Option.some.inj h
       have e_1 := hb_16 _ rfl
       subst e_1
       obtain rfl := Aft.bk hk_16
       exact AW.ret (hR_0 _ (retX (.cons (.tmp rfl) .nil) (.refl _) rfl (by kernel_rfl) (by kernel_rfl)))
      ·have h := ifF hb_37 h
       refine AW.skip ?_
       refine hK_19 _ ?_
       refine AW.ra fokW [] ⟨[(0, .d (.sl 1 (List.map e3 plan))), (4, .ptr 2 0), (5, .ptr 3 0), (6, .ptr 4 0), (8, .ptr 5 0), (10, .d (I (plan.length : Int))), (11, .d (I need)), (42, .d (.sl 4 (List.map e58 o0_B.Hanks))), (43, .d (I (o0_B.Hanks.length : Int))), (44, .d (I (wr (v + 1))))], [(0, .var 78 (hbm o0_B mf)), (1, .var 127 [.yld]), (2, .var 99 [.d (.fn 107)]), (3, .var 65 [.clo 89 [.agg (hbm m0_B mf_1)] []]), (4, .var 127 [.clo 112 [] [.ptr 0 0, .ptr 1 0, .ptr 2 0, .ptr 3 0, .ptr 4 0]]), (5, .var 92 (c5 cut))], 10, (fr_ s_5_1), [], 5⟩ (by kernel_rfl) ?_
       obtain rfl := Option.some.inj h
       have ew : wr (v + 1) = v + 1 := inext (N := (o0_B.Hanks.length : Int)) (by omega) (by omega) (by omega)
       rw [ew]
       exact hK_16 _ _ rfl (Can.kp (by kernel_rfl))
    ·subst hout
     have h := Aft.nx hk_16
     refine AW.sa fokW [] ⟨[(0, .d (.sl 1 (List.map e3 plan))), (4, .ptr 2 0), (5, .ptr 3 0), (6, .ptr 4 0), (8, .ptr 5 0), (10, .d (I (plan.length : Int))), (11, .d (I need)), (42, .d (.sl 4 (List.map e58 o0_B.Hanks))), (43, .d (I (o0_B.Hanks.length : Int))), (44, .d (I v)), (45, .d (.bool (decide (v < (o0_B.Hanks.length : Int)))))], [(5, .var 92 (c5 cut)), (0, .var 78 (hbm o0_B mf)), (1, .var 127 [.yld]), (2, .var 99 [.d (.fn 107)]), (3, .var 65 [.clo 89 [.agg (hbm m0_B mf_1)] []]), (4, .var 127 [.clo 112 [] [.ptr 0 0, .ptr 1 0, .ptr 2 0, .ptr 3 0, .ptr 4 0]])], 6, (fr_ s_2), [], 5⟩ (by kernel_rfl) ?_
     refine AW.seqK (fun K_38 hK_38 => ?_)
     refine AW.cond rfl (fun hb_39 => False.elim (by have := of_decide_eq_true hb_39; omega)) (fun hb_39 => ?_)
     refine AW.exit ?_
     refine hK_14 _ ?_
     refine AW.sa fokW [] ⟨[(9, .d (.bool true))], [(0, .var 78 (hbm o0_B mf)), (1, .var 127 [.yld]), (2, .var 99 [.d (.fn 107)]), (3, .var 65 [.clo 89 [.agg (hbm m0_B mf_1)] []]), (4, .var 127 [.clo 112 [] [.ptr 0 0, .ptr 1 0, .ptr 2 0, .ptr 3 0, .ptr 4 0]])], 6, (fr_ s_2), [], 5⟩ (by kernel_rfl) ?_
     obtain rfl := Option.some.inj h
     exact AW.ret (hR_0 _ (retX (.cons (.tmp rfl) .nil) (.refl _) rfl (by kernel_rfl) (by kernel_rfl)))
def g111 {S_ : Type} (c_ : (List Int) → (Nat → Int) → S_ → Option (S_ × Bool)) (o0_B : HairBook) (mf : List (Hair_dye × Span)) (m0_B : HairBook) (mf_1 : List (Hair_dye × Span)) (s_ : S_) : Option S_ := (g105).bind fun r0 => (g112 c_ 1000 ([] : (List Int)) r0 o0_B mf m0_B mf_1 s_).bind fun (r0_7, s_5) => some s_5
theorem k111 {S_ : Type} (fr_ : S_ → Fr) (c_ : (List Int) → (Nat → Int) → S_ → Option (S_ × Bool)) (hc_ : ∀ (a0 : (List Int)) (a1 : (Nat → Int)) s s2 b, c_ a0 a1 s = some (s2, b) → YCall Tryd.prog Gs (fr_ s) [.d (.sl 1 (List.map e3 a0)), .agg (c5 a1)] (.d (.bool b)) (fr_ s2)) (o0_B : HairBook) (mf : List (Hair_dye × Span)) (m0_B : HairBook) (mf_1 : List (Hair_dye × Span)) (s_ : S_) (r : S_) (h : g111 c_ o0_B mf m0_B mf_1 s_ = some r) : SCall Tryd.prog Gs 111 [.yld, .ptr 0 0, .ptr 1 0, .ptr 2 0] [(0, .var 78 (hbm o0_B mf)), (1, .var 99 [.d (.fn 107)]), (2, .var 65 [.clo 89 [.agg (hbm m0_B mf_1)] []])] 3 (fr_ s_) (.tup []) [(0, .var 78 (hbm o0_B mf)), (1, .var 99 [.d (.fn 107)]), (2, .var 65 [.clo 89 [.agg (hbm m0_B mf_1)] []])] 3 (fr_ r) := by
 unfold g111 at h
 refine SCall.mkK Tryd.func111 c111 rfl rfl (by kernel_rfl) (fun Q_0 hR_0 hN_0 => ?_)
 refine AW.sa fokW [] ⟨[(1, .ptr 0 0), (2, .ptr 1 0), (3, .ptr 2 0), (4, .ptr 3 0)], [(3, .var 127 [.yld]), (0, .var 78 (hbm o0_B mf)), (1, .var 99 [.d (.fn 107)]), (2, .var 65 [.clo 89 [.agg (hbm m0_B mf_1)] []])], 4, (fr_ s_), [], 3⟩ (by kernel_rfl) ?_
 refine AW.sa fokW [] ⟨[(1, .ptr 0 0), (2, .ptr 1 0), (3, .ptr 2 0), (4, .ptr 3 0), (5, .ptr 4 0)], [(4, .var 127 [.d (.nilFn)]), (3, .var 127 [.yld]), (0, .var 78 (hbm o0_B mf)), (1, .var 99 [.d (.fn 107)]), (2, .var 65 [.clo 89 [.agg (hbm m0_B mf_1)] []])], 5, (fr_ s_), [], 3⟩ (by kernel_rfl) ?_
 refine AW.sa fokW [] ⟨[(5, .ptr 4 0)], [(4, .var 127 [.clo 112 [] [.ptr 0 0, .ptr 3 0, .ptr 1 0, .ptr 2 0, .ptr 4 0]]), (3, .var 127 [.yld]), (0, .var 78 (hbm o0_B mf)), (1, .var 99 [.d (.fn 107)]), (2, .var 65 [.clo 89 [.agg (hbm m0_B mf_1)] []])], 5, (fr_ s_), [], 3⟩ (by kernel_rfl) ?_
 refine AW.drw fokW ?_
 refine RunC.auX 1 ⟨[(7, .clo 112 [] [.ptr 0 0, .ptr 3 0, .ptr 1 0, .ptr 2 0, .ptr 4 0])], [(4, .var 127 [.clo 112 [] [.ptr 0 0, .ptr 3 0, .ptr 1 0, .ptr 2 0, .ptr 4 0]]), (3, .var 127 [.yld]), (0, .var 78 (hbm o0_B mf)), (1, .var 99 [.d (.fn 107)]), (2, .var 65 [.clo 89 [.agg (hbm m0_B mf_1)] []])], 5, (fr_ s_), [], 3⟩ (by kernel_rfl) ?_
 obtain ⟨r0, hx_2, h⟩ := bsome h
 refine r_call trivial rfl (k105 _ hx_2) rfl rfl ?_
 obtain ⟨⟨r0_7, s_5⟩, hx_3, h⟩ := bsome h
 refine r_callvS (zr := []) [0, 3, 1, 2, 4] trivial rfl (.clo _ _ _) (by kernel_rfl) rfl (k112 fr_ c_ hc_ 1000 ([] : (List Int)) r0 o0_B mf m0_B mf_1 s_ _ hx_3) ⟨rfl, rfl, rfl, rfl, rfl, trivial⟩ rfl rfl ⟨(.nil 1), .refl _, .refl _, .refl _, .refl _, .refl _, .refl _, trivial⟩ rfl rfl rfl ?_
 refine RunC.fin ⟨[], [(0, .var 78 (hbm o0_B mf)), (1, .var 99 [.d (.fn 107)]), (2, .var 65 [.clo 89 [.agg (hbm m0_B mf_1)] []])], 5, (fr_ s_5), [], 3⟩ (by kernel_rfl) (by kernel_rfl) ?_
 obtain rfl := Option.some.inj h
 exact hN_0 _ (retX .nil (.refl _) rfl (by kernel_rfl) (by kernel_rfl))
def g81_r5 (b_B : HairBook) (mf : List (Hair_dye × Span)) : ((List Int) × (Nat → Int)) → ((List Int) × Int × Bool) → Option (Ctl ((List Int) × Int × Bool) (Unit)) := fun (a, a1) (v, v1, v2) => (g77).bind fun _ => (g75a b_B mf a1).bind fun r0_3 => bif ((!v2) || (decide (r0_3 < v1))) then (some (.next (a, r0_3, true))) else (some (.next (v, v1, v2)))
def g81 (b_B : HairBook) (mf : List (Hair_dye × Span)) : Option ((List Int) × Bool) := (g76).bind fun _ => (g88 b_B mf b_B mf).bind fun (o0_B, mf1) => (g111 (fun a a1 s => rndC (g81_r5 b_B mf) (a, a1) s) o0_B mf1 b_B mf (.next (([], 0, false) : (List Int) × Int × Bool))).bind fun out_5 => match out_5 with | .next (v, v1, v2) => some (v, v2) | .brk _ => none
theorem k81 (b_B : HairBook) (mf : List (Hair_dye × Span)) (r : (List Int) × Bool) (h : g81 b_B mf = some r) : SCall Tryd.prog Gs 81 [.agg (hbm b_B mf)] [] 0 Fr.emp (match r with | (r0, r1) => .tup [.d (.sl 1 (List.map e3 r0)), .d (.bool r1)]) [] 0 Fr.emp := by
 unfold g81 at h
 refine SCall.mkK Tryd.func81 c81 rfl rfl (by kernel_rfl) (fun Q_0 hR_0 hN_0 => ?_)
 refine AW.sa fokW [] ⟨[(1, .ptr 0 0)], [(0, .var 78 (hbm b_B mf))], 1, Fr.emp, [], 0⟩ (by kernel_rfl) ?_
 refine AW.sa fokW [] ⟨[(1, .ptr 0 0), (4, .ptr 1 0)], [(1, .var 26 [.d (.nilSl)]), (0, .var 78 (hbm b_B mf))], 2, Fr.emp, [], 0⟩ (by kernel_rfl) ?_
 refine AW.sa fokW [] ⟨[(1, .ptr 0 0), (4, .ptr 1 0), (5, .ptr 2 0), (6, .ptr 3 0)], [(3, .var 4 [.d (.bool false)]), (2, .var 3 [.d (I 0)]), (1, .var 26 [.d (.nilSl)]), (0, .var 78 (hbm b_B mf))], 4, Fr.emp, [], 0⟩ (by kernel_rfl) ?_
 refine AW.seqK (fun K_1 hK_1 => ?_)
 refine AW.sdrwK fokW (fun Q_2 hQ_2 => ?_)
 refine RunC.auX 1 ⟨[(1, .ptr 0 0), (4, .ptr 1 0), (5, .ptr 2 0), (6, .ptr 3 0), (10, .agg (hbm b_B mf))], [(3, .var 4 [.d (.bool false)]), (2, .var 3 [.d (I 0)]), (1, .var 26 [.d (.nilSl)]), (0, .var 78 (hbm b_B mf))], 4, Fr.emp, [], 0⟩ (by kernel_rfl) ?_
 obtain ⟨⟨⟩, hx_3, h⟩ := bsome h
 refine r_call trivial rfl (k76 _ hx_3) rfl rfl ?_
 refine RunC.auX 2 ⟨[(1, .ptr 0 0), (4, .ptr 1 0), (5, .ptr 2 0), (6, .ptr 3 0), (10, .agg (hbm b_B mf)), (11, .agg [.d (.fn 107)]), (13, .clo 89 [.agg (hbm b_B mf)] [])], [(3, .var 4 [.d (.bool false)]), (2, .var 3 [.d (I 0)]), (1, .var 26 [.d (.nilSl)]), (0, .var 78 (hbm b_B mf))], 4, Fr.emp, [], 0⟩ (by kernel_rfl) ?_
 obtain ⟨⟨o0_B, mf1⟩, hx_4, h⟩ := bsome h
 refine r_callS (zr := []) [] trivial rfl (k88 b_B mf b_B mf _ hx_4) trivial rfl rfl ⟨.refl _, .refl _, .refl _, trivial⟩ rfl rfl rfl ?_
 refine RunC.fin ⟨[(1, .ptr 0 0), (4, .ptr 1 0), (5, .ptr 2 0), (6, .ptr 3 0), (14, .clo 111 [] [.ptr 4 0, .ptr 5 0, .ptr 6 0])], [(4, .var 78 (hbm o0_B mf1)), (5, .var 99 [.d (.fn 107)]), (6, .var 65 [.clo 89 [.agg (hbm b_B mf)] []]), (3, .var 4 [.d (.bool false)]), (2, .var 3 [.d (I 0)]), (1, .var 26 [.d (.nilSl)]), (0, .var 78 (hbm b_B mf))], 7, Fr.emp, [], 0⟩ (by kernel_rfl) (by kernel_rfl) ?_
 refine hQ_2 _ ?_
 refine AW.block ?_
 refine AW.can (Can.wkH 1 0 1 rfl rfl) ?_
 obtain ⟨out_5, hx_5, h⟩ := bsome h
 refine AW.rfX (fun (⟨v, v1, v2⟩ : (List Int) × Int × Bool) => [(7, .dm), (3, .var 4 [.d (.bool v2)]), (2, .var 3 [.d (I v1)]), (1, .var 26 [.d (.sl 1 (List.map e3 v))]), (0, .var 78 (hbm b_B mf))]) (fun (_ : Unit) => []) (fun _ => some .ret) (g81_r5 b_B mf) (fun (⟨a, a1⟩ : (List Int) × (Nat → Int)) => [.d (.sl 1 (List.map e3 a)), .agg (c5 a1)]) (s0 := (([], 0, false) : (List Int) × Int × Bool)) (out := out_5) [(1, .ptr 0 0), (4, .ptr 1 0), (5, .ptr 2 0), (6, .ptr 3 0)] [(3, .var 4 [.d (.bool false)]), (2, .var 3 [.d (I 0)]), (1, .var 26 [.d (.sl 1 (List.map e3 []))]), (0, .var 78 (hbm b_B mf))] [4, 5, 6] rfl (.clo _ _ _) (by kernel_rfl) (by kernel_rfl) (fun fr_ hY_5 => k111 fr_ _ (fun a a1 s s2 b h => hY_5 (a, a1) s s2 b h) o0_B mf1 b_B mf (.next (([], 0, false) : (List Int) × Int × Bool)) _ hx_5) (by kernel_rfl) ⟨rfl, rfl, rfl, trivial⟩ rfl ⟨rfl, rfl⟩ rfl rfl (fun _ => rfl) (fun _ => rfl) (fun a_5 s_5 c_5 h l_5 => ?_) (fun _ => rfl) ?_
 ·obtain ⟨a, a1⟩ := a_5
  obtain ⟨v, v1, v2⟩ := s_5
  unfold g81_r5 at h
  refine AW.sa (fokR l_5) [] ⟨[(1, .ptr 0 0), (4, .ptr 1 0), (5, .ptr 2 0), (6, .ptr 3 0), (7, .d (.sl 1 (List.map e3 a))), (16, .agg (c5 a1))], [(7, .dm), (3, .var 4 [.d (.bool v2)]), (2, .var 3 [.d (I v1)]), (1, .var 26 [.d (.sl 1 (List.map e3 v))]), (0, .var 78 (hbm b_B mf))], 8, Fr.emp, [], 8⟩ (by kernel_rfl) ?_
  refine AW.ra (fokR l_5) [] ⟨[(1, .ptr 0 0), (4, .ptr 1 0), (5, .ptr 2 0), (6, .ptr 3 0), (7, .d (.sl 1 (List.map e3 a))), (8, .ptr 8 0)], [(8, .var 92 (c5 a1)), (7, .dm), (3, .var 4 [.d (.bool v2)]), (2, .var 3 [.d (I v1)]), (1, .var 26 [.d (.sl 1 (List.map e3 v))]), (0, .var 78 (hbm b_B mf))], 9, Fr.emp, [], 8⟩ (by kernel_rfl) ?_
  refine AW.block ?_
  refine AW.sdrwK (fokR l_5) (fun Q_6 hQ_6 => ?_)
  refine RunC.auX 2 ⟨[(4, .ptr 1 0), (5, .ptr 2 0), (6, .ptr 3 0), (7, .d (.sl 1 (List.map e3 a))), (17, .agg (hbm b_B mf)), (18, .agg (c5 a1))], [(8, .var 92 (c5 a1)), (7, .dm), (3, .var 4 [.d (.bool v2)]), (2, .var 3 [.d (I v1)]), (1, .var 26 [.d (.sl 1 (List.map e3 v))]), (0, .var 78 (hbm b_B mf))], 9, Fr.emp, [], 8⟩ (by kernel_rfl) ?_
  obtain ⟨⟨⟩, hx_7, h⟩ := bsome h
  refine r_call trivial rfl (k77 _ hx_7) rfl rfl ?_
  obtain ⟨r0_3, hx_8, h⟩ := bsome h
  refine r_call trivial rfl (k75a b_B mf a1 _ hx_8) rfl rfl ?_
  refine RunC.auX 1 ⟨[(4, .ptr 1 0), (5, .ptr 2 0), (6, .ptr 3 0), (7, .d (.sl 1 (List.map e3 a))), (9, .d (I r0_3))], [(8, .var 92 (c5 a1)), (7, .dm), (3, .var 4 [.d (.bool v2)]), (2, .var 3 [.d (I v1)]), (1, .var 26 [.d (.sl 1 (List.map e3 v))]), (0, .var 78 (hbm b_B mf))], 9, Fr.emp, [], 8⟩ (by kernel_rfl) ?_
  refine RunC.fin ⟨[(4, .ptr 1 0), (5, .ptr 2 0), (6, .ptr 3 0), (7, .d (.sl 1 (List.map e3 a))), (9, .d (I r0_3))], [(7, .dm), (3, .var 4 [.d (.bool v2)]), (2, .var 3 [.d (I v1)]), (1, .var 26 [.d (.sl 1 (List.map e3 v))]), (0, .var 78 (hbm b_B mf))], 9, Fr.emp, [], 8⟩ (by kernel_rfl) (by kernel_rfl) ?_
  refine hQ_6 _ ?_
  refine AW.sa (fokR l_5) [23] ⟨[(4, .ptr 1 0), (5, .ptr 2 0), (6, .ptr 3 0), (7, .d (.sl 1 (List.map e3 a))), (9, .d (I r0_3)), (27, .d (.bool ((!v2) || (decide (r0_3 < v1)))))], [(7, .dm), (3, .var 4 [.d (.bool v2)]), (2, .var 3 [.d (I v1)]), (1, .var 26 [.d (.sl 1 (List.map e3 v))]), (0, .var 78 (hbm b_B mf))], 9, Fr.emp, [], 8⟩ (by kernel_rfl) ?_
  refine AW.cond rfl (fun hb_9 => ?_) (fun hb_9 => ?_)
  ·have h := ifT hb_9 h
   refine AW.ra (fokR l_5) [] ⟨[], [(3, .var 4 [.d (.bool true)]), (2, .var 3 [.d (I r0_3)]), (1, .var 26 [.d (.sl 1 (List.map e3 a))]), (7, .dm), (0, .var 78 (hbm b_B mf))], 9, Fr.emp, [], 8⟩ (by kernel_rfl) ?_
   obtain rfl := Option.some.inj h
   exact ⟨⟨[], [(7, .dm), (3, .var 4 [.d (.bool true)]), (2, .var 3 [.d (I r0_3)]), (1, .var 26 [.d (.sl 1 (List.map e3 a))]), (0, .var 78 (hbm b_B mf))], 8, Fr.emp, [], 8⟩, Can.kp (by kernel_rfl), rdX trivial rfl (by kernel_rfl) (by kernel_rfl)⟩
  ·have h := ifF hb_9 h
   refine AW.skip ?_
   obtain rfl := Option.some.inj h
   exact ⟨⟨[], [(7, .dm), (3, .var 4 [.d (.bool v2)]), (2, .var 3 [.d (I v1)]), (1, .var 26 [.d (.sl 1 (List.map e3 v))]), (0, .var 78 (hbm b_B mf))], 8, Fr.emp, [], 8⟩, Can.kp (by kernel_rfl), rdX trivial rfl (by kernel_rfl) (by kernel_rfl)⟩
 ·rcases out_5 with ⟨v, v1, v2⟩ | _
  ·refine hK_1 _ ?_
   refine AW.sa fokW [] ⟨[(2, .d (.sl 1 (List.map e3 v))), (3, .d (.bool v2))], [(7, .dm)], 8, Fr.emp, [7], 0⟩ (by kernel_rfl) ?_
   obtain rfl := Option.some.inj h
   exact AW.ret (hR_0 _ (retX (.cons (.tmp rfl) (.cons (.tmp rfl) .nil)) (.refl _) rfl (by kernel_rfl) (by kernel_rfl)))
  ·cases h
def g26 (x : HairBook) : Option ((List Int) × Int) := (g17 x).bind fun r0_9 => bif (decide (r0_9 ≠ 0)) then (some ([], r0_9)) else ((g80 x).bind fun (r0_B, mf) => (g81 r0_B mf).bind fun (r0, r1) => bif (!r1) then (some ([], 4)) else ((slcL r0 0 (r0.length : Int)).bind fun l => some (l, 0)))
theorem k26 (x : HairBook) (r : (List Int) × Int) (h : g26 x = some r) : SCall Tryd.prog Gs 26 [.agg (cv25 x)] [] 0 Fr.emp (match r with | (r0_3, r1_3) => .tup [.d (.sl 1 (List.map e3 r0_3)), .d (I r1_3)]) [] 0 Fr.emp := by
 unfold g26 at h
 refine SCall.mkK Tryd.func26 c26 rfl rfl (by kernel_rfl) (fun Q_0 hR_0 hN_0 => ?_)
 refine AW.sa fokW [] ⟨[(1, .ptr 0 0)], [(0, .var 25 (cv25 x))], 1, Fr.emp, [], 0⟩ (by kernel_rfl) ?_
 refine AW.seqK (fun K_1 hK_1 => ?_)
 refine AW.srwK (fun Q_2 hQ_2 => ?_)
 refine RW.au fokW 1 [] ⟨[(1, .ptr 0 0), (7, .agg (cv25 x))], [(0, .var 25 (cv25 x))], 1, Fr.emp, [], 0⟩ (by kernel_rfl) ?_
 obtain ⟨r0_9, hx_3, h⟩ := bsome h
 refine RW.one fokW (r_call trivial rfl (k17 x _ hx_3) rfl rfl (r_end ?_))
 refine RW.au fokW 1 [] ⟨[(1, .ptr 0 0), (4, .d (I r0_9))], [(0, .var 25 (cv25 x))], 1, Fr.emp, [], 0⟩ (by kernel_rfl) ?_
 refine RW.nil ?_
 refine hQ_2 _ ?_
 refine AW.sa fokW [] ⟨[(1, .ptr 0 0), (4, .d (I r0_9)), (10, .d (.bool (decide (r0_9 ≠ 0))))], [(0, .var 25 (cv25 x))], 1, Fr.emp, [], 0⟩ (by kernel_rfl) ?_
 refine AW.cond rfl (fun hb_4 => ?_) (fun hb_4 => ?_)
 ·have h := ifT hb_4 h
  refine AW.sa fokW [] ⟨[(2, .d (.nilSl)), (3, .d (I r0_9))], [], 1, Fr.emp, [], 0⟩ (by kernel_rfl) ?_
  obtain rfl := Option.some.inj h
  exact AW.ret (hR_0 _ (retX (.cons (.tmp rfl) (.cons (.tmp rfl) .nil)) (Frz.tup_of ⟨.nil 1, .refl _, trivial⟩) rfl (by kernel_rfl) (by kernel_rfl)))
 ·have h := ifF hb_4 h
  refine AW.skip ?_
  refine hK_1 _ ?_
  refine AW.srwK (fun Q_5 hQ_5 => ?_)
  refine RW.au fokW 1 [] ⟨[(13, .agg (cv25 x))], [], 1, Fr.emp, [], 0⟩ (by kernel_rfl) ?_
  obtain ⟨⟨r0_B, mf⟩, hx_6, h⟩ := bsome h
  refine RW.one fokW (r_call trivial rfl (k80 x _ hx_6) rfl rfl (r_end ?_))
  obtain ⟨⟨r0, r1⟩, hx_7, h⟩ := bsome h
  refine RW.one fokW (r_call trivial rfl (k81 r0_B mf _ hx_7) rfl rfl (r_end ?_))
  refine RW.au fokW 5 [] ⟨[(5, .d (.sl 1 (List.map e3 r0))), (6, .d (.bool r1))], [], 1, Fr.emp, [], 0⟩ (by kernel_rfl) ?_
  refine RW.nil ?_
  refine hQ_5 _ ?_
  refine AW.seqK (fun K_8 hK_8 => ?_)
  refine AW.sa fokW [] ⟨[(5, .d (.sl 1 (List.map e3 r0))), (19, .d (.bool (!r1)))], [], 1, Fr.emp, [], 0⟩ (by kernel_rfl) ?_
  refine AW.cond rfl (fun hb_9 => ?_) (fun hb_9 => ?_)
  ·have h := ifT hb_9 h
   refine AW.sa fokW [] ⟨[(2, .d (.nilSl)), (3, .d (I 4))], [], 1, Fr.emp, [], 0⟩ (by kernel_rfl) ?_
   obtain rfl := Option.some.inj h
   exact AW.ret (hR_0 _ (retX (.cons (.tmp rfl) (.cons (.tmp rfl) .nil)) (Frz.tup_of ⟨.nil 1, .refl _, trivial⟩) rfl (by kernel_rfl) (by kernel_rfl)))
  ·have h := ifF hb_9 h
   refine AW.skip ?_
   refine hK_8 _ ?_
   refine AW.srwK (fun Q_10 hQ_10 => ?_)
   refine RW.au fokW 2 [] ⟨[(5, .d (.sl 1 (List.map e3 r0))), (20, .d (.sl 1 (List.map e3 r0))), (21, .d (.sl 1 (List.map e3 r0)))], [], 1, Fr.emp, [], 0⟩ (by kernel_rfl) ?_
   refine RW.one fokW (r_lenX trivial rfl lenm (r_end ?_))
   refine RW.au fokW 1 [] ⟨[(20, .d (.sl 1 (List.map e3 r0))), (22, .d (I (r0.length : Int))), (23, .d (.sl 1 (List.map e3 r0)))], [], 1, Fr.emp, [], 0⟩ (by kernel_rfl) ?_
   refine RW.one fokW (r_lenX trivial rfl lenm (r_end ?_))
   obtain ⟨l, hv_11, h⟩ := bsome h
   refine RW.one fokW (r_slN trivial rfl rfl rfl DSl.d (slcL_ok hv_11).2.1 (by rw [List.length_map]; exact (slcL_ok hv_11).2.2.1) rfl (slz hv_11 e3) (r_end ?_))
   refine RW.au fokW 2 [] ⟨[(2, .fsl 1 (List.map e3 l)), (3, .d (I 0))], [], 1, Fr.emp, [], 0⟩ (by kernel_rfl) ?_
   refine RW.nil ?_
   refine hQ_10 _ ?_
   obtain rfl := Option.some.inj h
   exact AW.ret (hR_0 _ (retX (.cons (.tmp rfl) (.cons (.tmp rfl) .nil)) (Frz.tup_of ⟨.fsl _ _, .refl _, trivial⟩) rfl (by kernel_rfl) (by kernel_rfl)))
def g28_4 (l : (List Int)) (m : (List Int)) : (Bool × Int) → Option (Ctl (Bool × Int) (Bool)) := fun  (is2, i) => (bif is2 then (some (decide (i < (l.length : Int)))) else (some false)).bind fun v => bif v then ((ixL l i).bind fun p => (ixL m i).bind fun p1 => some (.next ((decide (p = p1)), (wr (i + 1))))) else (some (.brk is2))
def g28 (l : (List Int)) (m : (List Int)) : Option Bool := ((whileC (g28_4 l m) 1000 ((decide ((l.length : Int) = (m.length : Int))), 0)).bind fun is1 => some is1).bind fun is => some is
theorem k28 (l : (List Int)) (m : (List Int)) (r : Bool) (h : g28 l m = some r) : SCall Tryd.prog Gs 28 [.d (.sl 1 (List.map e3 l)), .d (.sl 1 (List.map e3 m))] [] 0 Fr.emp (.d (.bool r)) [] 0 Fr.emp := by
 unfold g28 at h
 refine SCall.mkK Tryd.func28 c28 rfl rfl (by kernel_rfl) (fun Q_0 hR_0 hN_0 => ?_)
 refine AW.sa fokW [] ⟨[(0, .d (.sl 1 (List.map e3 l))), (1, .d (.sl 1 (List.map e3 m)))], [], 0, Fr.emp, [], 0⟩ (by kernel_rfl) ?_
 refine AW.srwK (fun Q_1 hQ_1 => ?_)
 refine RW.au fokW 1 [] ⟨[(0, .d (.sl 1 (List.map e3 l))), (1, .d (.sl 1 (List.map e3 m))), (7, .d (.sl 1 (List.map e3 l)))], [], 0, Fr.emp, [], 0⟩ (by kernel_rfl) ?_
 refine RW.one fokW (r_lenX trivial rfl lenm (r_end ?_))
 refine RW.au fokW 1 [] ⟨[(0, .d (.sl 1 (List.map e3 l))), (1, .d (.sl 1 (List.map e3 m))), (8, .d (I (l.length : Int))), (9, .d (.sl 1 (List.map e3 m)))], [], 0, Fr.emp, [], 0⟩ (by kernel_rfl) ?_
 refine RW.one fokW (r_lenX trivial rfl lenm (r_end ?_))
 refine RW.au fokW 2 [] ⟨[(0, .d (.sl 1 (List.map e3 l))), (1, .d (.sl 1 (List.map e3 m))), (5, .d (.bool (decide ((l.length : Int) = (m.length : Int)))))], [], 0, Fr.emp, [], 0⟩ (by kernel_rfl) ?_
 refine RW.nil ?_
 refine hQ_1 _ ?_
 obtain ⟨is, hx_2, h⟩ := bsome h
 refine AW.jnSK (fun (is : Bool) => ⟨[(5, .d (.bool is))], [], 0, Fr.emp, [], 0⟩) (c := is) (fun K_2 hK_2 => ?_) ?_
 ·have h := hx_2
  refine AW.sa fokW [] ⟨[(0, .d (.sl 1 (List.map e3 l))), (1, .d (.sl 1 (List.map e3 m))), (5, .d (.bool (decide ((l.length : Int) = (m.length : Int))))), (6, .d (I 0))], [], 0, Fr.emp, [], 0⟩ (by kernel_rfl) ?_
  obtain ⟨is1, hx_3, h⟩ := bsome h
  refine AW.jqSK (fun (is1 : Bool) => ⟨[(5, .d (.bool is1))], [], 0, Fr.emp, [], 0⟩) (c := is1) (fun K_3 hK_3 => ?_) ?_
  ·have h := hx_3
   refine AW.block ?_
   refine AW.whK (fun (⟨is2, i⟩ : Bool × Int) => ⟨[(0, .d (.sl 1 (List.map e3 l))), (1, .d (.sl 1 (List.map e3 m))), (5, .d (.bool is2)), (6, .d (I i))], [], 0, Fr.emp, [], 0⟩) (g28_4 l m) h (Can.kp (by kernel_rfl)) (fun s_4 c_4 h hb_4 K_4 hK_4 => ?_)
   obtain ⟨is2, i⟩ := s_4
   unfold g28_4 at h
   refine AW.seqK (fun K_5 hK_5 => ?_)
   refine AW.srwK (fun Q_6 hQ_6 => ?_)
   refine RW.au fokW 2 [] ⟨[(0, .d (.sl 1 (List.map e3 l))), (1, .d (.sl 1 (List.map e3 m))), (5, .d (.bool is2)), (6, .d (I i)), (13, .d (.bool is2))], [], 0, Fr.emp, [], 0⟩ (by kernel_rfl) ?_
   obtain ⟨v, hx_7, h⟩ := bsome h
   refine RW.cut fokW 5 (⟨[(0, .d (.sl 1 (List.map e3 l))), (1, .d (.sl 1 (List.map e3 m))), (5, .d (.bool is2)), (6, .d (I i)), (18, .d (.bool v))], [], 0, Fr.emp, [], 0⟩) ?_ ?_
   ·refine r_split 13 rfl (fun hb_8 => ?_) (fun hb_8 => ?_)
    ·have h := ifT hb_8 hx_7
     refine RunC.auX 2 ⟨[(0, .d (.sl 1 (List.map e3 l))), (1, .d (.sl 1 (List.map e3 m))), (5, .d (.bool is2)), (6, .d (I i)), (13, .d (.bool true)), (14, .d (I i)), (15, .d (.sl 1 (List.map e3 l)))], [], 0, Fr.emp, [], 0⟩ (by kernel_rfl) ?_
     refine r_lenX rfl rfl lenm ?_
     refine RunC.auX 2 ⟨[(0, .d (.sl 1 (List.map e3 l))), (1, .d (.sl 1 (List.map e3 m))), (5, .d (.bool is2)), (6, .d (I i)), (18, .d (.bool (decide (i < (l.length : Int)))))], [], 0, Fr.emp, [], 0⟩ (by kernel_rfl) ?_
     obtain rfl := Option.some.inj h
     refine RunC.finJ (Can.kp (by kernel_rfl))
    ·have h := ifF hb_8 hx_7
     refine RunC.auX 5 ⟨[(0, .d (.sl 1 (List.map e3 l))), (1, .d (.sl 1 (List.map e3 m))), (5, .d (.bool is2)), (6, .d (I i)), (18, .d (.bool false))], [], 0, Fr.emp, [], 0⟩ (by kernel_rfl) ?_
     obtain rfl := Option.some.inj h
     refine RunC.finJ (Can.kp (by kernel_rfl))
   ·refine RW.nil ?_
    refine hQ_6 _ ?_
    refine AW.cond rfl (fun hb_9 => ?_) (fun hb_9 => ?_)
    ·have h := ifT hb_9 h
     refine AW.skip ?_
     refine hK_5 _ ?_
     refine AW.seqK (fun K_10 hK_10 => ?_)
     refine AW.block ?_
     refine AW.drw fokW ?_
     refine RunC.auX 2 ⟨[(0, .d (.sl 1 (List.map e3 l))), (1, .d (.sl 1 (List.map e3 m))), (6, .d (I i)), (21, .d (.sl 1 (List.map e3 l))), (22, .d (I i))], [], 0, Fr.emp, [], 0⟩ (by kernel_rfl) ?_
     obtain ⟨p, hv_12, h⟩ := bsome h
     refine r_iaD trivial rfl rfl (ixL_ok hv_12).1 (row := e3 p) (mapget (ixL_ok hv_12).2) ?_
     refine RunC.auX 3 ⟨[(0, .d (.sl 1 (List.map e3 l))), (1, .d (.sl 1 (List.map e3 m))), (6, .d (I i)), (24, .d (I p)), (25, .d (.sl 1 (List.map e3 m))), (26, .d (I i))], [], 0, Fr.emp, [], 0⟩ (by kernel_rfl) ?_
     obtain ⟨p1, hv_13, h⟩ := bsome h
     refine r_iaD trivial rfl rfl (ixL_ok hv_13).1 (row := e3 p1) (mapget (ixL_ok hv_13).2) ?_
     refine RunC.auX 3 ⟨[(0, .d (.sl 1 (List.map e3 l))), (1, .d (.sl 1 (List.map e3 m))), (5, .d (.bool (decide (p = p1)))), (6, .d (I i))], [], 0, Fr.emp, [], 0⟩ (by kernel_rfl) ?_
     refine RunC.fin ⟨[(0, .d (.sl 1 (List.map e3 l))), (1, .d (.sl 1 (List.map e3 m))), (5, .d (.bool (decide (p = p1)))), (6, .d (I i))], [], 0, Fr.emp, [], 0⟩ (by kernel_rfl) (by kernel_rfl) ?_
     refine hK_10 _ ?_
     refine AW.ra fokW [] ⟨[(0, .d (.sl 1 (List.map e3 l))), (1, .d (.sl 1 (List.map e3 m))), (5, .d (.bool (decide (p = p1)))), (6, .d (I (wr (i + 1))))], [], 0, Fr.emp, [], 0⟩ (by kernel_rfl) ?_
     obtain rfl := Option.some.inj h
     exact hK_4 _ _ rfl (Can.kp (by kernel_rfl))
    ·have h := ifF hb_9 h
     refine AW.exit ?_
     obtain rfl := Option.some.inj h
     obtain rfl := hb_4 _ rfl
     exact hK_3 _ (Can.kp (by kernel_rfl))
  ·obtain rfl := Option.some.inj h
   exact hK_2 _ (Can.kp (by kernel_rfl))
 ·refine AW.sa fokW [] ⟨[(4, .d (.bool is))], [], 0, Fr.emp, [], 0⟩ (by kernel_rfl) ?_
  obtain rfl := Option.some.inj h
  exact AW.ret (hR_0 _ (retX (.cons (.tmp rfl) .nil) (.refl _) rfl (by kernel_rfl) (by kernel_rfl)))
def g54  : Option HairBook := (g79).bind fun r0_1 => (slcL r0_1.Hanks 0 2).bind fun l => some (HairBook.mk l r0_1.Horses r0_1.Dark r0_1.Near r0_1.Match)
theorem k54  (r : HairBook) (h : g54 = some r) : SCall Tryd.prog Gs 54 [] [] 0 Fr.emp (.agg (cv25 r)) [] 0 Fr.emp := by
 unfold g54 at h
 refine SCall.mkK Tryd.func54 c54 rfl rfl (by kernel_rfl) (fun Q_0 hR_0 hN_0 => ?_)
 refine AW.sa fokW [] ⟨[(0, .ptr 0 0)], [(0, .var 25 [.d (.nilSl), .d (.nilSl), .d (I 0), .d (I 0), .d (I 0)])], 1, Fr.emp, [], 0⟩ (by kernel_rfl) ?_
 refine AW.srwK (fun Q_1 hQ_1 => ?_)
 obtain ⟨r0_1, hx_2, h⟩ := bsome h
 refine RW.one fokW (r_call trivial rfl (k79 _ hx_2) rfl rfl (r_end ?_))
 refine RW.au fokW 2 [] ⟨[(0, .ptr 0 0), (1, .ptr 1 0)], [(1, .var 25 (cv25 r0_1)), (0, .var 25 [.d (.nilSl), .d (.nilSl), .d (I 0), .d (I 0), .d (I 0)])], 2, Fr.emp, [], 0⟩ (by kernel_rfl) ?_
 refine RW.nil ?_
 refine hQ_1 _ ?_
 refine AW.srwK (fun Q_3 hQ_3 => ?_)
 refine RW.au fokW 2 [] ⟨[(0, .ptr 0 0), (1, .ptr 1 0), (4, .d (.sl 4 (List.map e58 r0_1.Hanks)))], [(1, .var 25 (cv25 r0_1)), (0, .var 25 [.d (.nilSl), .d (.nilSl), .d (I 0), .d (I 0), .d (I 0)])], 2, Fr.emp, [], 0⟩ (by kernel_rfl) ?_
 obtain ⟨l, hv_4, h⟩ := bsome h
 refine RW.one fokW (r_slH trivial rfl rfl DSl.d (slcL_ok hv_4).2.1 (by rw [List.length_map]; exact (slcL_ok hv_4).2.2.1) (slz hv_4 e58) (r_end ?_))
 refine RW.au fokW 2 [] ⟨[(0, .ptr 0 0), (1, .ptr 1 0)], [(1, .var 25 [.d (.sl 4 (List.map e58 l)), .d (.sl 3 (List.map e69 r0_1.Horses)), .d (I r0_1.Dark), .d (I r0_1.Near), .d (I r0_1.Match)]), (0, .var 25 [.d (.nilSl), .d (.nilSl), .d (I 0), .d (I 0), .d (I 0)])], 2, Fr.emp, [], 0⟩ (by kernel_rfl) ?_
 refine RW.nil ?_
 refine hQ_3 _ ?_
 refine AW.sa fokW [] ⟨[(0, .ptr 0 0)], [(0, .var 25 [.d (.sl 4 (List.map e58 l)), .d (.sl 3 (List.map e69 r0_1.Horses)), .d (I r0_1.Dark), .d (I r0_1.Near), .d (I r0_1.Match)])], 2, Fr.emp, [], 0⟩ (by kernel_rfl) ?_
 obtain rfl := Option.some.inj h
 exact AW.ret (hR_0 _ (retX (.cons (.agg rfl rfl (Nat.le_of_ble_eq_true rfl)) .nil) (.refl _) rfl (by kernel_rfl) (by kernel_rfl)))
def g84_r5 : ((List Int) × (Nat → Int)) → (Unit) → Option (Ctl (Unit) (Unit)) := fun (a, a1) _ => some (.brk ())
def g84 (b_B : HairBook) (mf : List (Hair_dye × Span)) : Option Bool := (g76).bind fun _ => (g88 b_B mf b_B mf).bind fun (o0_B, mf1) => (g111 (fun a a1 s => rndC g84_r5 (a, a1) s) o0_B mf1 b_B mf (.next ())).bind fun out_5 => match out_5 with | .next _ => some false | .brk _ => some true
theorem k84 (b_B : HairBook) (mf : List (Hair_dye × Span)) (r : Bool) (h : g84 b_B mf = some r) : SCall Tryd.prog Gs 84 [.agg (hbm b_B mf)] [] 0 Fr.emp (.d (.bool r)) [] 0 Fr.emp := by
 unfold g84 at h
 refine SCall.mkK Tryd.func84 c84 rfl rfl (by kernel_rfl) (fun Q_0 hR_0 hN_0 => ?_)
 refine AW.sa fokW [] ⟨[(1, .ptr 0 0), (2, .ptr 1 0)], [(1, .var 4 [.d (.bool false)]), (0, .var 78 (hbm b_B mf))], 2, Fr.emp, [], 0⟩ (by kernel_rfl) ?_
 refine AW.seqK (fun K_1 hK_1 => ?_)
 refine AW.sdrwK fokW (fun Q_2 hQ_2 => ?_)
 refine RunC.auX 1 ⟨[(1, .ptr 0 0), (2, .ptr 1 0), (3, .agg (hbm b_B mf))], [(1, .var 4 [.d (.bool false)]), (0, .var 78 (hbm b_B mf))], 2, Fr.emp, [], 0⟩ (by kernel_rfl) ?_
 obtain ⟨⟨⟩, hx_3, h⟩ := bsome h
 refine r_call trivial rfl (k76 _ hx_3) rfl rfl ?_
 refine RunC.auX 2 ⟨[(2, .ptr 1 0), (3, .agg (hbm b_B mf)), (4, .agg [.d (.fn 107)]), (6, .clo 89 [.agg (hbm b_B mf)] [])], [(1, .var 4 [.d (.bool false)]), (0, .var 78 (hbm b_B mf))], 2, Fr.emp, [], 0⟩ (by kernel_rfl) ?_
 obtain ⟨⟨o0_B, mf1⟩, hx_4, h⟩ := bsome h
 refine r_callS (zr := []) [] trivial rfl (k88 b_B mf b_B mf _ hx_4) trivial rfl rfl ⟨.refl _, .refl _, .refl _, trivial⟩ rfl rfl rfl ?_
 refine RunC.fin ⟨[(2, .ptr 1 0), (7, .clo 111 [] [.ptr 2 0, .ptr 3 0, .ptr 4 0])], [(2, .var 78 (hbm o0_B mf1)), (3, .var 99 [.d (.fn 107)]), (4, .var 65 [.clo 89 [.agg (hbm b_B mf)] []]), (1, .var 4 [.d (.bool false)])], 5, Fr.emp, [], 0⟩ (by kernel_rfl) (by kernel_rfl) ?_
 refine hQ_2 _ ?_
 refine AW.block ?_
 obtain ⟨out_5, hx_5, h⟩ := bsome h
 refine AW.rfX (fun (_ : Unit) => [(5, .dm), (1, .var 4 [.d (.bool false)])]) (fun (_ : Unit) => [(5, .dm), (1, .var 4 [.d (.bool true)])]) (fun _ => some .ret) g84_r5 (fun (⟨a, a1⟩ : (List Int) × (Nat → Int)) => [.d (.sl 1 (List.map e3 a)), .agg (c5 a1)]) (s0 := ()) (out := out_5) [(2, .ptr 1 0)] [(1, .var 4 [.d (.bool false)])] [2, 3, 4] rfl (.clo _ _ _) (by kernel_rfl) (by kernel_rfl) (fun fr_ hY_5 => k111 fr_ _ (fun a a1 s s2 b h => hY_5 (a, a1) s s2 b h) o0_B mf1 b_B mf (.next ()) _ hx_5) (by kernel_rfl) ⟨rfl, rfl, rfl, trivial⟩ rfl ⟨rfl, rfl⟩ rfl rfl (fun _ => rfl) (fun _ => rfl) (fun a_5 s_5 c_5 h l_5 => ?_) (fun _ => rfl) ?_
 ·obtain ⟨a, a1⟩ := a_5
  unfold g84_r5 at h
  refine AW.skip ?_
  refine AW.block ?_
  refine AW.sa (fokR l_5) [] ⟨[(2, .ptr 1 0)], [(1, .var 4 [.d (.bool true)]), (5, .dm)], 6, Fr.emp, [], 6⟩ (by kernel_rfl) ?_
  refine AW.ret ?_
  obtain rfl := Option.some.inj h
  exact ⟨⟨[], [(5, .dm), (1, .var 4 [.d (.bool true)])], 6, Fr.emp, [], 6⟩, Can.kp (by kernel_rfl), rdX trivial rfl (by kernel_rfl) (by kernel_rfl)⟩
 ·rcases out_5 with _ | _
  ·refine hK_1 _ ?_
   refine AW.sa fokW [] ⟨[(2, .ptr 1 0)], [(1, .var 4 [.d (.bool false)]), (5, .dm)], 6, Fr.emp, [5], 0⟩ (by kernel_rfl) ?_
   obtain rfl := Option.some.inj h
   exact AW.ret (hR_0 _ (retX (.cons (.one rfl rfl rfl) .nil) (.refl _) rfl (by kernel_rfl) (by kernel_rfl)))
  ·obtain rfl := Option.some.inj h
   exact hR_0 _ (retX (.cons (.one rfl rfl rfl) .nil) (.refl _) rfl (by kernel_rfl) (by kernel_rfl))
def g116 (x : Int) : Option Bool := some (decide (x ≠ x))
theorem k116 (x : Int) (r : Bool) (h : g116 x = some r) : SCall Tryd.prog Gs 116 [.d (I x)] [] 0 Fr.emp (.d (.bool r)) [] 0 Fr.emp := by
 unfold g116 at h
 refine SCall.mkK Tryd.func116 c116 rfl rfl (by kernel_rfl) (fun Q_0 hR_0 hN_0 => ?_)
 refine AW.sa fokW [] ⟨[(0, .d (I x))], [], 0, Fr.emp, [], 0⟩ (by kernel_rfl) ?_
 refine AW.sa fokW [] ⟨[(2, .d (.bool (decide (x ≠ x))))], [], 0, Fr.emp, [], 0⟩ (by kernel_rfl) ?_
 obtain rfl := Option.some.inj h
 exact AW.ret (hR_0 _ (retX (.cons (.tmp rfl) .nil) (.refl _) rfl (by kernel_rfl) (by kernel_rfl)))
def g110 (x : Int) (y : Int) : Option Int := (g116 x).bind fun r0 => (g116 y).bind fun r0_1 => bif r0 then (bif r0_1 then (some 0) else (some (-1))) else (bif r0_1 then (some 1) else (bif (decide (x < y)) then (some (-1)) else (bif (decide (y < x)) then (some 1) else (some 0))))
theorem k110 (x : Int) (y : Int) (r : Int) (h : g110 x y = some r) : SCall Tryd.prog Gs 110 [.d (I x), .d (I y)] [] 0 Fr.emp (.d (I r)) [] 0 Fr.emp := by
 unfold g110 at h
 refine SCall.mkK Tryd.func110 c110 rfl rfl (by kernel_rfl) (fun Q_0 hR_0 hN_0 => ?_)
 refine AW.sa fokW [] ⟨[(0, .d (I x)), (1, .d (I y))], [], 0, Fr.emp, [], 0⟩ (by kernel_rfl) ?_
 refine AW.srwK (fun Q_1 hQ_1 => ?_)
 refine RW.au fokW 1 [] ⟨[(0, .d (I x)), (1, .d (I y)), (7, .d (I x))], [], 0, Fr.emp, [], 0⟩ (by kernel_rfl) ?_
 obtain ⟨r0, hx_2, h⟩ := bsome h
 refine RW.one fokW (r_call trivial rfl (k116 x _ hx_2) rfl rfl (r_end ?_))
 refine RW.au fokW 1 [] ⟨[(0, .d (I x)), (1, .d (I y)), (5, .d (.bool r0))], [], 0, Fr.emp, [], 0⟩ (by kernel_rfl) ?_
 refine RW.nil ?_
 refine hQ_1 _ ?_
 refine AW.srwK (fun Q_3 hQ_3 => ?_)
 refine RW.au fokW 1 [] ⟨[(0, .d (I x)), (1, .d (I y)), (5, .d (.bool r0)), (9, .d (I y))], [], 0, Fr.emp, [], 0⟩ (by kernel_rfl) ?_
 obtain ⟨r0_1, hx_4, h⟩ := bsome h
 refine RW.one fokW (r_call trivial rfl (k116 y _ hx_4) rfl rfl (r_end ?_))
 refine RW.au fokW 1 [] ⟨[(0, .d (I x)), (1, .d (I y)), (5, .d (.bool r0)), (6, .d (.bool r0_1))], [], 0, Fr.emp, [], 0⟩ (by kernel_rfl) ?_
 refine RW.nil ?_
 refine hQ_3 _ ?_
 refine AW.seqK (fun K_5 hK_5 => ?_)
 refine AW.sa fokW [] ⟨[(0, .d (I x)), (1, .d (I y)), (6, .d (.bool r0_1)), (11, .d (.bool r0))], [], 0, Fr.emp, [], 0⟩ (by kernel_rfl) ?_
 refine AW.cond rfl (fun hb_6 => ?_) (fun hb_6 => ?_)
 ·have h := ifT hb_6 h
  refine AW.seqK (fun K_7 hK_7 => ?_)
  refine AW.sa fokW [] ⟨[(12, .d (.bool r0_1))], [], 0, Fr.emp, [], 0⟩ (by kernel_rfl) ?_
  refine AW.cond rfl (fun hb_8 => ?_) (fun hb_8 => ?_)
  ·have h := ifT hb_8 h
   refine AW.sa fokW [] ⟨[(4, .d (I 0))], [], 0, Fr.emp, [], 0⟩ (by kernel_rfl) ?_
   obtain rfl := Option.some.inj h
   exact AW.ret (hR_0 _ (retX (.cons (.tmp rfl) .nil) (.refl _) rfl (by kernel_rfl) (by kernel_rfl)))
  ·have h := ifF hb_8 h
   refine AW.skip ?_
   refine hK_7 _ ?_
   refine AW.sa fokW [] ⟨[(4, .d (I (-1)))], [], 0, Fr.emp, [], 0⟩ (by kernel_rfl) ?_
   obtain rfl := Option.some.inj h
   exact AW.ret (hR_0 _ (retX (.cons (.tmp rfl) .nil) (.refl _) rfl (by kernel_rfl) (by kernel_rfl)))
 ·have h := ifF hb_6 h
  refine AW.skip ?_
  refine hK_5 _ ?_
  refine AW.seqK (fun K_9 hK_9 => ?_)
  refine AW.sa fokW [] ⟨[(0, .d (I x)), (1, .d (I y)), (13, .d (.bool r0_1))], [], 0, Fr.emp, [], 0⟩ (by kernel_rfl) ?_
  refine AW.cond rfl (fun hb_10 => ?_) (fun hb_10 => ?_)
  ·have h := ifT hb_10 h
   refine AW.sa fokW [] ⟨[(4, .d (I 1))], [], 0, Fr.emp, [], 0⟩ (by kernel_rfl) ?_
   obtain rfl := Option.some.inj h
   exact AW.ret (hR_0 _ (retX (.cons (.tmp rfl) .nil) (.refl _) rfl (by kernel_rfl) (by kernel_rfl)))
  ·have h := ifF hb_10 h
   refine AW.skip ?_
   refine hK_9 _ ?_
   refine AW.seqK (fun K_11 hK_11 => ?_)
   refine AW.sa fokW [] ⟨[(0, .d (I x)), (1, .d (I y)), (16, .d (.bool (decide (x < y))))], [], 0, Fr.emp, [], 0⟩ (by kernel_rfl) ?_
   refine AW.cond rfl (fun hb_12 => ?_) (fun hb_12 => ?_)
   ·have h := ifT hb_12 h
    refine AW.sa fokW [] ⟨[(4, .d (I (-1)))], [], 0, Fr.emp, [], 0⟩ (by kernel_rfl) ?_
    obtain rfl := Option.some.inj h
    exact AW.ret (hR_0 _ (retX (.cons (.tmp rfl) .nil) (.refl _) rfl (by kernel_rfl) (by kernel_rfl)))
   ·have h := ifF hb_12 h
    refine AW.skip ?_
    refine hK_11 _ ?_
    refine AW.seqK (fun K_13 hK_13 => ?_)
    refine AW.sa fokW [] ⟨[(19, .d (.bool (decide (y < x))))], [], 0, Fr.emp, [], 0⟩ (by kernel_rfl) ?_
    refine AW.cond rfl (fun hb_14 => ?_) (fun hb_14 => ?_)
    ·have h := ifT hb_14 h
     refine AW.sa fokW [] ⟨[(4, .d (I 1))], [], 0, Fr.emp, [], 0⟩ (by kernel_rfl) ?_
     obtain rfl := Option.some.inj h
     exact AW.ret (hR_0 _ (retX (.cons (.tmp rfl) .nil) (.refl _) rfl (by kernel_rfl) (by kernel_rfl)))
    ·have h := ifF hb_14 h
     refine AW.skip ?_
     refine hK_13 _ ?_
     refine AW.sa fokW [] ⟨[(4, .d (I 0))], [], 0, Fr.emp, [], 0⟩ (by kernel_rfl) ?_
     obtain rfl := Option.some.inj h
     exact AW.ret (hR_0 _ (retX (.cons (.tmp rfl) .nil) (.refl _) rfl (by kernel_rfl) (by kernel_rfl)))
def g83_3 (s2 : (List Int)) : Int → Int → Unit → Option (Ctl (Unit) (Int)) := fun v p _ => bif (decide ((s2.length : Int) ≤ v)) then (some (.brk 1)) else ((ixL s2 v).bind fun p1 => (g110 p p1).bind fun r0_7 => bif (decide (r0_7 ≠ 0)) then (some (.brk r0_7)) else (some (.next ())))
def g83 (s1 : (List Int)) (s2 : (List Int)) : Option Int := bindC (eachC (g83_3 s2) s1 0 ()) fun _ => bif (decide ((s1.length : Int) < (s2.length : Int))) then (some (-1)) else (some 0)
theorem k83 (s1 : (List Int)) (s2 : (List Int)) (r : Int) (h : g83 s1 s2 = some r) : SCall Tryd.prog Gs 83 [.d (.sl 1 (List.map e3 s1)), .d (.sl 1 (List.map e3 s2))] [] 0 Fr.emp (.d (I r)) [] 0 Fr.emp := by
 unfold g83 at h
 refine SCall.mkK Tryd.func83 c83 rfl rfl (by kernel_rfl) (fun Q_0 hR_0 hN_0 => ?_)
 refine AW.sa fokW [] ⟨[(0, .d (.sl 1 (List.map e3 s1))), (1, .d (.sl 1 (List.map e3 s2)))], [], 0, Fr.emp, [], 0⟩ (by kernel_rfl) ?_
 refine AW.seqK (fun K_1 hK_1 => ?_)
 refine AW.srwK (fun Q_2 hQ_2 => ?_)
 refine RW.au fokW 1 [] ⟨[(0, .d (.sl 1 (List.map e3 s1))), (1, .d (.sl 1 (List.map e3 s2))), (9, .d (.sl 1 (List.map e3 s1)))], [], 0, Fr.emp, [], 0⟩ (by kernel_rfl) ?_
 refine RW.one fokW (r_lenX trivial rfl lenm (r_end ?_))
 refine RW.au fokW 1 [] ⟨[(0, .d (.sl 1 (List.map e3 s1))), (1, .d (.sl 1 (List.map e3 s2))), (9, .d (.sl 1 (List.map e3 s1))), (10, .d (I (s1.length : Int))), (11, .d (I 0))], [], 0, Fr.emp, [], 0⟩ (by kernel_rfl) ?_
 refine RW.nil ?_
 refine hQ_2 _ ?_
 refine AW.block ?_
 refine AW.sln (t := 0) rfl (fun hN_3 => ?_)
 rw [List.length_map] at hN_3
 obtain ⟨out_3, hx_3, hk_3⟩ := bsomeC h
 refine AW.evCK (fun (v : Int) (_ : Unit) => ⟨[(0, .d (.sl 1 (List.map e3 s1))), (1, .d (.sl 1 (List.map e3 s2))), (9, .d (.sl 1 (List.map e3 s1))), (10, .d (I (s1.length : Int))), (11, .d (I v))], [], 0, Fr.emp, [], 0⟩) (g83_3 s2) hx_3 (Can.kp (by kernel_rfl)) (fun v p s_3 hi_3 hl_3 hp_3 c_3 h hb_3 K_3 hK_3 => ?_) (fun v s_3 hi_3 hl_3 hout => ?_)
 ·unfold g83_3 at h
  refine AW.sa fokW [] ⟨[(0, .d (.sl 1 (List.map e3 s1))), (1, .d (.sl 1 (List.map e3 s2))), (9, .d (.sl 1 (List.map e3 s1))), (10, .d (I (s1.length : Int))), (11, .d (I v)), (12, .d (.bool (decide (v < (s1.length : Int)))))], [], 0, Fr.emp, [], 0⟩ (by kernel_rfl) ?_
  refine AW.seqK (fun K_4 hK_4 => ?_)
  refine AW.cond rfl (fun hb_5 => ?_) (fun hb_5 => False.elim (by have := of_decide_eq_false hb_5; omega))
  refine AW.skip ?_
  refine hK_4 _ ?_
  refine AW.seqK (fun K_6 hK_6 => ?_)
  refine AW.block ?_
  refine AW.srwK (fun Q_7 hQ_7 => ?_)
  refine RW.au fokW 1 [] ⟨[(0, .d (.sl 1 (List.map e3 s1))), (1, .d (.sl 1 (List.map e3 s2))), (9, .d (.sl 1 (List.map e3 s1))), (10, .d (I (s1.length : Int))), (11, .d (I v)), (13, .d (I v))], [], 0, Fr.emp, [], 0⟩ (by kernel_rfl) ?_
  refine RW.one fokW (r_iaD trivial rfl rfl hi_3 (row := e3 p) (mapget hp_3) (r_end ?_))
  refine RW.au fokW 3 [] ⟨[(0, .d (.sl 1 (List.map e3 s1))), (1, .d (.sl 1 (List.map e3 s2))), (5, .d (I v)), (6, .d (I p)), (9, .d (.sl 1 (List.map e3 s1))), (10, .d (I (s1.length : Int))), (11, .d (I v))], [], 0, Fr.emp, [], 0⟩ (by kernel_rfl) ?_
  refine RW.nil ?_
  refine hQ_7 _ ?_
  refine AW.seqK (fun K_8 hK_8 => ?_)
  refine AW.srwK (fun Q_9 hQ_9 => ?_)
  refine RW.au fokW 2 [] ⟨[(0, .d (.sl 1 (List.map e3 s1))), (1, .d (.sl 1 (List.map e3 s2))), (5, .d (I v)), (6, .d (I p)), (9, .d (.sl 1 (List.map e3 s1))), (10, .d (I (s1.length : Int))), (11, .d (I v)), (16, .d (I v)), (17, .d (.sl 1 (List.map e3 s2)))], [], 0, Fr.emp, [], 0⟩ (by kernel_rfl) ?_
  refine RW.one fokW (r_lenX trivial rfl lenm (r_end ?_))
  refine RW.au fokW 1 [] ⟨[(0, .d (.sl 1 (List.map e3 s1))), (1, .d (.sl 1 (List.map e3 s2))), (5, .d (I v)), (6, .d (I p)), (9, .d (.sl 1 (List.map e3 s1))), (10, .d (I (s1.length : Int))), (11, .d (I v)), (19, .d (.bool (decide ((s2.length : Int) ≤ v))))], [], 0, Fr.emp, [], 0⟩ (by kernel_rfl) ?_
  refine RW.nil ?_
  refine hQ_9 _ ?_
  refine AW.cond rfl (fun hb_10 => ?_) (fun hb_10 => ?_)
  ·have h := ifT hb_10 h
   refine AW.sa fokW [] ⟨[(4, .d (I 1))], [], 0, Fr.emp, [], 0⟩ (by kernel_rfl) ?_
   obtain rfl := Option.some.inj h
   have e_1 := hb_3 _ rfl
   subst e_1
   obtain rfl := Aft.bk hk_3
   exact AW.ret (hR_0 _ (retX (.cons (.tmp rfl) .nil) (.refl _) rfl (by kernel_rfl) (by kernel_rfl)))
  ·have h := ifF hb_10 h
   refine AW.skip ?_
   refine hK_8 _ ?_
   refine AW.srwK (fun Q_11 hQ_11 => ?_)
   refine RW.au fokW 2 [] ⟨[(0, .d (.sl 1 (List.map e3 s1))), (1, .d (.sl 1 (List.map e3 s2))), (6, .d (I p)), (9, .d (.sl 1 (List.map e3 s1))), (10, .d (I (s1.length : Int))), (11, .d (I v)), (20, .d (.sl 1 (List.map e3 s2))), (21, .d (I v))], [], 0, Fr.emp, [], 0⟩ (by kernel_rfl) ?_
   obtain ⟨p1, hv_12, h⟩ := bsome h
   refine RW.one fokW (r_iaD trivial rfl rfl (ixL_ok hv_12).1 (row := e3 p1) (mapget (ixL_ok hv_12).2) (r_end ?_))
   refine RW.au fokW 2 [] ⟨[(0, .d (.sl 1 (List.map e3 s1))), (1, .d (.sl 1 (List.map e3 s2))), (6, .d (I p)), (7, .d (I p1)), (9, .d (.sl 1 (List.map e3 s1))), (10, .d (I (s1.length : Int))), (11, .d (I v))], [], 0, Fr.emp, [], 0⟩ (by kernel_rfl) ?_
   refine RW.nil ?_
   refine hQ_11 _ ?_
   refine AW.srwK (fun Q_13 hQ_13 => ?_)
   refine RW.au fokW 2 [] ⟨[(0, .d (.sl 1 (List.map e3 s1))), (1, .d (.sl 1 (List.map e3 s2))), (9, .d (.sl 1 (List.map e3 s1))), (10, .d (I (s1.length : Int))), (11, .d (I v)), (24, .d (I p)), (25, .d (I p1))], [], 0, Fr.emp, [], 0⟩ (by kernel_rfl) ?_
   obtain ⟨r0_7, hx_14, h⟩ := bsome h
   refine RW.one fokW (r_call trivial rfl (k110 p p1 _ hx_14) rfl rfl (r_end ?_))
   refine RW.au fokW 1 [] ⟨[(0, .d (.sl 1 (List.map e3 s1))), (1, .d (.sl 1 (List.map e3 s2))), (8, .d (I r0_7)), (9, .d (.sl 1 (List.map e3 s1))), (10, .d (I (s1.length : Int))), (11, .d (I v))], [], 0, Fr.emp, [], 0⟩ (by kernel_rfl) ?_
   refine RW.nil ?_
   refine hQ_13 _ ?_
   refine AW.sa fokW [] ⟨[(0, .d (.sl 1 (List.map e3 s1))), (1, .d (.sl 1 (List.map e3 s2))), (8, .d (I r0_7)), (9, .d (.sl 1 (List.map e3 s1))), (10, .d (I (s1.length : Int))), (11, .d (I v)), (28, .d (.bool (decide (r0_7 ≠ 0))))], [], 0, Fr.emp, [], 0⟩ (by kernel_rfl) ?_
   refine AW.cond rfl (fun hb_15 => ?_) (fun hb_15 => ?_)
   ·have h := ifT hb_15 h
    refine AW.sa fokW [] ⟨[(4, .d (I r0_7))], [], 0, Fr.emp, [], 0⟩ (by kernel_rfl) ?_
    obtain rfl := Option.some.inj h
    have e_1 := hb_3 _ rfl
    subst e_1
    obtain rfl := Aft.bk hk_3
    exact AW.ret (hR_0 _ (retX (.cons (.tmp rfl) .nil) (.refl _) rfl (by kernel_rfl) (by kernel_rfl)))
   ·have h := ifF hb_15 h
    refine AW.skip ?_
    refine hK_6 _ ?_
    refine AW.ra fokW [] ⟨[(0, .d (.sl 1 (List.map e3 s1))), (1, .d (.sl 1 (List.map e3 s2))), (9, .d (.sl 1 (List.map e3 s1))), (10, .d (I (s1.length : Int))), (11, .d (I (wr (v + 1))))], [], 0, Fr.emp, [], 0⟩ (by kernel_rfl) ?_
    obtain rfl := Option.some.inj h
    have ew : wr (v + 1) = v + 1 := inext (N := (s1.length : Int)) (by omega) (by omega) (by omega)
    rw [ew]
    exact hK_3 _ _ rfl (Can.kp (by kernel_rfl))
 ·subst hout
  have h := Aft.nx hk_3
  refine AW.sa fokW [] ⟨[(0, .d (.sl 1 (List.map e3 s1))), (1, .d (.sl 1 (List.map e3 s2))), (9, .d (.sl 1 (List.map e3 s1))), (10, .d (I (s1.length : Int))), (11, .d (I v)), (12, .d (.bool (decide (v < (s1.length : Int)))))], [], 0, Fr.emp, [], 0⟩ (by kernel_rfl) ?_
  refine AW.seqK (fun K_16 hK_16 => ?_)
  refine AW.cond rfl (fun hb_17 => False.elim (by have := of_decide_eq_true hb_17; omega)) (fun hb_17 => ?_)
  refine AW.exit ?_
  refine hK_1 _ ?_
  refine AW.seqK (fun K_18 hK_18 => ?_)
  refine AW.srwK (fun Q_19 hQ_19 => ?_)
  refine RW.au fokW 1 [] ⟨[(1, .d (.sl 1 (List.map e3 s2))), (31, .d (.sl 1 (List.map e3 s1)))], [], 0, Fr.emp, [], 0⟩ (by kernel_rfl) ?_
  refine RW.one fokW (r_lenX trivial rfl lenm (r_end ?_))
  refine RW.au fokW 1 [] ⟨[(32, .d (I (s1.length : Int))), (33, .d (.sl 1 (List.map e3 s2)))], [], 0, Fr.emp, [], 0⟩ (by kernel_rfl) ?_
  refine RW.one fokW (r_lenX trivial rfl lenm (r_end ?_))
  refine RW.au fokW 1 [] ⟨[(35, .d (.bool (decide ((s1.length : Int) < (s2.length : Int)))))], [], 0, Fr.emp, [], 0⟩ (by kernel_rfl) ?_
  refine RW.nil ?_
  refine hQ_19 _ ?_
  refine AW.cond rfl (fun hb_20 => ?_) (fun hb_20 => ?_)
  ·have h := ifT hb_20 h
   refine AW.sa fokW [] ⟨[(4, .d (I (-1)))], [], 0, Fr.emp, [], 0⟩ (by kernel_rfl) ?_
   obtain rfl := Option.some.inj h
   exact AW.ret (hR_0 _ (retX (.cons (.tmp rfl) .nil) (.refl _) rfl (by kernel_rfl) (by kernel_rfl)))
  ·have h := ifF hb_20 h
   refine AW.skip ?_
   refine hK_18 _ ?_
   refine AW.sa fokW [] ⟨[(4, .d (I 0))], [], 0, Fr.emp, [], 0⟩ (by kernel_rfl) ?_
   obtain rfl := Option.some.inj h
   exact AW.ret (hR_0 _ (retX (.cons (.tmp rfl) .nil) (.refl _) rfl (by kernel_rfl) (by kernel_rfl)))
def g29_14 (v1 : Int) : Int → HairHorse → ((List Int) × (List HairHorse)) → Option ((List Int) × (List HairHorse)) := fun v2 p (l, l1) => (must (decide (0 ≤ v2))).bind fun _ => bif (decide ((bAnd (shr64 v1 v2) 1) = 1)) then ((appL 8 l [v2]).bind fun l2 => some (l2, l1)) else ((appL 24 l1 [p]).bind fun l3 => some (l, l3))
def g29_8 (x : HairBook) : Int → ((List Int) × Bool) → Option ((List Int) × Bool) := fun v1 (best1, found1) => (eachS (g29_14 v1) x.Horses 0 (([], []) : (List Int) × (List HairHorse))).bind fun (l, l1) => (bif found1 then (bif (decide ((best1.length : Int) < (l.length : Int))) then (some true) else (bif (decide ((l.length : Int) = (best1.length : Int))) then ((g83 l best1).bind fun r0_3 => some (decide (0 ≤ r0_3))) else (some false))) else (some false)).bind fun v3 => bif v3 then (some (best1, found1)) else ((g80 (HairBook.mk x.Hanks l1 x.Dark x.Near x.Match)).bind fun (r0_B, mf) => (g84 r0_B mf).bind fun r0_1 => bif r0_1 then (some (l, true)) else (some (best1, found1)))
def g29 (x : HairBook) : Option ((List Int) × Int) := (g17 x).bind fun r0_9 => bif (decide (r0_9 ≠ 0)) then (some ([], r0_9)) else ((must (decide (0 ≤ (x.Horses.length : Int)))).bind fun _ => (must (decide ((shl64 1 (x.Horses.length : Int)) ≤ 9223372036854775807))).bind fun _ => (forS (g29_8 x) ((((shl64 1 (x.Horses.length : Int)) : Int) - 0).toNat) 0 (([], false) : (List Int) × Bool)).bind fun (best1, found1) => (slcL best1 0 (best1.length : Int)).bind fun l4 => some (l4, 0))
theorem k29 (x : HairBook) (r : (List Int) × Int) (h : g29 x = some r) : SCall Tryd.prog Gs 29 [.agg (cv25 x)] [] 0 Fr.emp (match r with | (r0_2, r1_1) => .tup [.d (.sl 1 (List.map e3 r0_2)), .d (I r1_1)]) [] 0 Fr.emp := by
 unfold g29 at h
 refine SCall.mkK Tryd.func29 c29 rfl rfl (by kernel_rfl) (fun Q_0 hR_0 hN_0 => ?_)
 refine AW.sa fokW [] ⟨[(1, .ptr 0 0)], [(0, .var 25 (cv25 x))], 1, Fr.emp, [], 0⟩ (by kernel_rfl) ?_
 refine AW.seqK (fun K_1 hK_1 => ?_)
 refine AW.srwK (fun Q_2 hQ_2 => ?_)
 refine RW.au fokW 1 [] ⟨[(1, .ptr 0 0), (12, .agg (cv25 x))], [(0, .var 25 (cv25 x))], 1, Fr.emp, [], 0⟩ (by kernel_rfl) ?_
 obtain ⟨r0_9, hx_3, h⟩ := bsome h
 refine RW.one fokW (r_call trivial rfl (k17 x _ hx_3) rfl rfl (r_end ?_))
 refine RW.au fokW 1 [] ⟨[(1, .ptr 0 0), (4, .d (I r0_9))], [(0, .var 25 (cv25 x))], 1, Fr.emp, [], 0⟩ (by kernel_rfl) ?_
 refine RW.nil ?_
 refine hQ_2 _ ?_
 refine AW.sa fokW [] ⟨[(1, .ptr 0 0), (4, .d (I r0_9)), (15, .d (.bool (decide (r0_9 ≠ 0))))], [(0, .var 25 (cv25 x))], 1, Fr.emp, [], 0⟩ (by kernel_rfl) ?_
 refine AW.cond rfl (fun hb_4 => ?_) (fun hb_4 => ?_)
 ·have h := ifT hb_4 h
  refine AW.sa fokW [] ⟨[(2, .d (.nilSl)), (3, .d (I r0_9))], [], 1, Fr.emp, [], 0⟩ (by kernel_rfl) ?_
  obtain rfl := Option.some.inj h
  exact AW.ret (hR_0 _ (retX (.cons (.tmp rfl) (.cons (.tmp rfl) .nil)) (Frz.tup_of ⟨.nil 1, .refl _, trivial⟩) rfl (by kernel_rfl) (by kernel_rfl)))
 ·have h := ifF hb_4 h
  refine AW.skip ?_
  refine hK_1 _ ?_
  refine AW.sa fokW [] ⟨[(1, .ptr 0 0), (5, .d (.nilSl))], [(0, .var 25 (cv25 x))], 1, Fr.emp, [], 0⟩ (by kernel_rfl) ?_
  refine AW.sa fokW [] ⟨[(1, .ptr 0 0), (5, .d (.nilSl)), (6, .d (.bool false))], [(0, .var 25 (cv25 x))], 1, Fr.emp, [], 0⟩ (by kernel_rfl) ?_
  refine AW.seqK (fun K_5 hK_5 => ?_)
  refine AW.srwK (fun Q_6 hQ_6 => ?_)
  refine RW.au fokW 2 [] ⟨[(1, .ptr 0 0), (5, .d (.nilSl)), (6, .d (.bool false)), (18, .d (.sl 3 (List.map e69 x.Horses)))], [(0, .var 25 (cv25 x))], 1, Fr.emp, [], 0⟩ (by kernel_rfl) ?_
  refine RW.one fokW (r_lenX trivial rfl lenm (r_end ?_))
  obtain ⟨_, hv_7, h⟩ := bsome h
  refine RW.one fokW (r_sh trivial rfl rfl (shl64_ok (of_decide_eq_true (must_ok hv_7))) (r_end ?_))
  refine RW.au fokW 1 [] ⟨[(1, .ptr 0 0), (5, .d (.nilSl)), (6, .d (.bool false)), (20, .d (I (shl64 1 (x.Horses.length : Int)))), (21, .d (I 0))], [(0, .var 25 (cv25 x))], 1, Fr.emp, [], 0⟩ (by kernel_rfl) ?_
  refine RW.nil ?_
  refine hQ_6 _ ?_
  refine AW.block ?_
  obtain ⟨_, hN_8, h⟩ := bsome h
  have hN_8 := of_decide_eq_true (must_ok hN_8)
  obtain ⟨out_8, hx_8, h⟩ := bsome h
  refine AW.lpSK (fun (v1 : Int) (⟨best1, found1⟩ : (List Int) × Bool) => ⟨[(1, .ptr 0 0), (5, .d (.sl 1 (List.map e3 best1))), (6, .d (.bool found1)), (20, .d (I (shl64 1 (x.Horses.length : Int)))), (21, .d (I v1))], [(0, .var 25 (cv25 x))], 1, Fr.emp, [], 0⟩) (g29_8 x) ((shl64 1 (x.Horses.length : Int))) hx_8 (Can.trans (Can.wkE 5 1 rfl) (Can.kp (by kernel_rfl))) (fun v1 s_8 hi_8 hl_8 c_8 h K_8 hK_8 => ?_) (fun v1 s_8 hi_8 hl_8 hout => ?_)
  ·obtain ⟨best1, found1⟩ := s_8
   unfold g29_8 at h
   refine AW.sa fokW [] ⟨[(1, .ptr 0 0), (5, .d (.sl 1 (List.map e3 best1))), (6, .d (.bool found1)), (20, .d (I (shl64 1 (x.Horses.length : Int)))), (21, .d (I v1)), (22, .d (.bool (decide (v1 < (shl64 1 (x.Horses.length : Int))))))], [(0, .var 25 (cv25 x))], 1, Fr.emp, [], 0⟩ (by kernel_rfl) ?_
   refine AW.seqK (fun K_9 hK_9 => ?_)
   refine AW.cond rfl (fun hb_10 => ?_) (fun hb_10 => False.elim (by have := of_decide_eq_false hb_10; omega))
   refine AW.skip ?_
   refine hK_9 _ ?_
   refine AW.seqK (fun K_11 hK_11 => ?_)
   refine AW.block ?_
   refine AW.sa fokW [] ⟨[(1, .ptr 0 0), (5, .d (.sl 1 (List.map e3 best1))), (6, .d (.bool found1)), (7, .d (I v1)), (20, .d (I (shl64 1 (x.Horses.length : Int)))), (21, .d (I v1))], [(0, .var 25 (cv25 x))], 1, Fr.emp, [], 0⟩ (by kernel_rfl) ?_
   refine AW.sa fokW [] ⟨[(1, .ptr 0 0), (5, .d (.sl 1 (List.map e3 best1))), (6, .d (.bool found1)), (7, .d (I v1)), (8, .ptr 1 0), (20, .d (I (shl64 1 (x.Horses.length : Int)))), (21, .d (I v1))], [(1, .var 25 (cv25 x)), (0, .var 25 (cv25 x))], 2, Fr.emp, [], 0⟩ (by kernel_rfl) ?_
   refine AW.sa fokW [] ⟨[(1, .ptr 0 0), (5, .d (.sl 1 (List.map e3 best1))), (6, .d (.bool found1)), (7, .d (I v1)), (8, .ptr 1 0), (20, .d (I (shl64 1 (x.Horses.length : Int)))), (21, .d (I v1))], [(1, .var 25 [.d (.sl 4 (List.map e58 x.Hanks)), .d (.nilSl), .d (I x.Dark), .d (I x.Near), .d (I x.Match)]), (0, .var 25 (cv25 x))], 2, Fr.emp, [], 0⟩ (by kernel_rfl) ?_
   refine AW.sa fokW [] ⟨[(1, .ptr 0 0), (5, .d (.sl 1 (List.map e3 best1))), (6, .d (.bool found1)), (7, .d (I v1)), (8, .ptr 1 0), (9, .d (.nilSl)), (20, .d (I (shl64 1 (x.Horses.length : Int)))), (21, .d (I v1))], [(1, .var 25 [.d (.sl 4 (List.map e58 x.Hanks)), .d (.nilSl), .d (I x.Dark), .d (I x.Near), .d (I x.Match)]), (0, .var 25 (cv25 x))], 2, Fr.emp, [], 0⟩ (by kernel_rfl) ?_
   refine AW.seqK (fun K_12 hK_12 => ?_)
   refine AW.srwK (fun Q_13 hQ_13 => ?_)
   refine RW.au fokW 2 [] ⟨[(1, .ptr 0 0), (5, .d (.sl 1 (List.map e3 best1))), (6, .d (.bool found1)), (7, .d (I v1)), (8, .ptr 1 0), (9, .d (.nilSl)), (20, .d (I (shl64 1 (x.Horses.length : Int)))), (21, .d (I v1)), (27, .d (.sl 3 (List.map e69 x.Horses)))], [(1, .var 25 [.d (.sl 4 (List.map e58 x.Hanks)), .d (.nilSl), .d (I x.Dark), .d (I x.Near), .d (I x.Match)]), (0, .var 25 (cv25 x))], 2, Fr.emp, [], 0⟩ (by kernel_rfl) ?_
   refine RW.one fokW (r_lenX trivial rfl lenm (r_end ?_))
   refine RW.au fokW 1 [] ⟨[(1, .ptr 0 0), (5, .d (.sl 1 (List.map e3 best1))), (6, .d (.bool found1)), (7, .d (I v1)), (8, .ptr 1 0), (9, .d (.nilSl)), (20, .d (I (shl64 1 (x.Horses.length : Int)))), (21, .d (I v1)), (27, .d (.sl 3 (List.map e69 x.Horses))), (28, .d (I (x.Horses.length : Int))), (29, .d (I 0))], [(1, .var 25 [.d (.sl 4 (List.map e58 x.Hanks)), .d (.nilSl), .d (I x.Dark), .d (I x.Near), .d (I x.Match)]), (0, .var 25 (cv25 x))], 2, Fr.emp, [], 0⟩ (by kernel_rfl) ?_
   refine RW.nil ?_
   refine hQ_13 _ ?_
   refine AW.block ?_
   refine AW.sln (t := 27) rfl (fun hN_14 => ?_)
   rw [List.length_map] at hN_14
   obtain ⟨out_14, hx_14, h⟩ := bsome h
   refine AW.evSK (fun (v2 : Int) (⟨l, l1⟩ : (List Int) × (List HairHorse)) => ⟨[(1, .ptr 0 0), (5, .d (.sl 1 (List.map e3 best1))), (6, .d (.bool found1)), (7, .d (I v1)), (8, .ptr 1 0), (9, .own 2 (List.map e3 l).length), (20, .d (I (shl64 1 (x.Horses.length : Int)))), (21, .d (I v1)), (27, .d (.sl 3 (List.map e69 x.Horses))), (28, .d (I (x.Horses.length : Int))), (29, .d (I v2))], [(1, .var 25 [.d (.sl 4 (List.map e58 x.Hanks)), .own 3 (List.map e69 l1).length, .d (I x.Dark), .d (I x.Near), .d (I x.Match)]), (3, .row 69 3 (List.map e69 l1)), (2, .row 3 1 (List.map e3 l)), (0, .var 25 (cv25 x))], 4, Fr.emp, [], 0⟩) (g29_14 v1) hx_14 (Can.trans (Can.thawT 9 3 1 rfl rfl) (Can.trans (Can.thawH 1 1 25 69 3 rfl rfl rfl) (Can.kp (by kernel_rfl)))) (fun v2 p s_14 hi_14 hl_14 hp_14 c_14 h K_14 hK_14 => ?_) (fun v2 s_14 hi_14 hl_14 hout => ?_)
   ·obtain ⟨l, l1⟩ := s_14
    unfold g29_14 at h
    refine AW.sa fokW [] ⟨[(1, .ptr 0 0), (5, .d (.sl 1 (List.map e3 best1))), (6, .d (.bool found1)), (7, .d (I v1)), (8, .ptr 1 0), (9, .own 2 (List.map e3 l).length), (20, .d (I (shl64 1 (x.Horses.length : Int)))), (21, .d (I v1)), (27, .d (.sl 3 (List.map e69 x.Horses))), (28, .d (I (x.Horses.length : Int))), (29, .d (I v2)), (30, .d (.bool (decide (v2 < (x.Horses.length : Int)))))], [(1, .var 25 [.d (.sl 4 (List.map e58 x.Hanks)), .own 3 (List.map e69 l1).length, .d (I x.Dark), .d (I x.Near), .d (I x.Match)]), (3, .row 69 3 (List.map e69 l1)), (2, .row 3 1 (List.map e3 l)), (0, .var 25 (cv25 x))], 4, Fr.emp, [], 0⟩ (by kernel_rfl) ?_
    refine AW.seqK (fun K_15 hK_15 => ?_)
    refine AW.cond rfl (fun hb_16 => ?_) (fun hb_16 => False.elim (by have := of_decide_eq_false hb_16; omega))
    refine AW.skip ?_
    refine hK_15 _ ?_
    refine AW.seqK (fun K_17 hK_17 => ?_)
    refine AW.block ?_
    refine AW.srwK (fun Q_18 hQ_18 => ?_)
    refine RW.au fokW 1 [] ⟨[(1, .ptr 0 0), (5, .d (.sl 1 (List.map e3 best1))), (6, .d (.bool found1)), (7, .d (I v1)), (8, .ptr 1 0), (9, .own 2 (List.map e3 l).length), (20, .d (I (shl64 1 (x.Horses.length : Int)))), (21, .d (I v1)), (27, .d (.sl 3 (List.map e69 x.Horses))), (28, .d (I (x.Horses.length : Int))), (29, .d (I v2)), (31, .d (I v2))], [(1, .var 25 [.d (.sl 4 (List.map e58 x.Hanks)), .own 3 (List.map e69 l1).length, .d (I x.Dark), .d (I x.Near), .d (I x.Match)]), (3, .row 69 3 (List.map e69 l1)), (2, .row 3 1 (List.map e3 l)), (0, .var 25 (cv25 x))], 4, Fr.emp, [], 0⟩ (by kernel_rfl) ?_
    refine RW.one fokW (r_iaD trivial rfl rfl hi_14 (row := e69 p) (mapget hp_14) (r_end ?_))
    refine RW.au fokW 4 [] ⟨[(1, .ptr 0 0), (5, .d (.sl 1 (List.map e3 best1))), (6, .d (.bool found1)), (7, .d (I v1)), (8, .ptr 1 0), (9, .own 2 (List.map e3 l).length), (10, .d (I v2)), (11, .ptr 4 0), (20, .d (I (shl64 1 (x.Horses.length : Int)))), (21, .d (I v1)), (27, .d (.sl 3 (List.map e69 x.Horses))), (28, .d (I (x.Horses.length : Int))), (29, .d (I v2))], [(4, .var 69 [.d (I p.Mane), .d (I p.Tail), .d (I p.Shade)]), (1, .var 25 [.d (.sl 4 (List.map e58 x.Hanks)), .own 3 (List.map e69 l1).length, .d (I x.Dark), .d (I x.Near), .d (I x.Match)]), (3, .row 69 3 (List.map e69 l1)), (2, .row 3 1 (List.map e3 l)), (0, .var 25 (cv25 x))], 5, Fr.emp, [], 0⟩ (by kernel_rfl) ?_
    refine RW.nil ?_
    refine hQ_18 _ ?_
    refine AW.srwK (fun Q_19 hQ_19 => ?_)
    refine RW.au fokW 2 [] ⟨[(1, .ptr 0 0), (5, .d (.sl 1 (List.map e3 best1))), (6, .d (.bool found1)), (7, .d (I v1)), (8, .ptr 1 0), (9, .own 2 (List.map e3 l).length), (10, .d (I v2)), (11, .ptr 4 0), (20, .d (I (shl64 1 (x.Horses.length : Int)))), (21, .d (I v1)), (27, .d (.sl 3 (List.map e69 x.Horses))), (28, .d (I (x.Horses.length : Int))), (29, .d (I v2)), (34, .d (I v1)), (35, .d (I v2))], [(4, .var 69 [.d (I p.Mane), .d (I p.Tail), .d (I p.Shade)]), (1, .var 25 [.d (.sl 4 (List.map e58 x.Hanks)), .own 3 (List.map e69 l1).length, .d (I x.Dark), .d (I x.Near), .d (I x.Match)]), (3, .row 69 3 (List.map e69 l1)), (2, .row 3 1 (List.map e3 l)), (0, .var 25 (cv25 x))], 5, Fr.emp, [], 0⟩ (by kernel_rfl) ?_
    obtain ⟨_, hv_20, h⟩ := bsome h
    refine RW.one fokW (r_sh trivial rfl rfl (shr64_ok (of_decide_eq_true (must_ok hv_20))) (r_end ?_))
    refine RW.au fokW 2 [] ⟨[(1, .ptr 0 0), (5, .d (.sl 1 (List.map e3 best1))), (6, .d (.bool found1)), (7, .d (I v1)), (8, .ptr 1 0), (9, .own 2 (List.map e3 l).length), (10, .d (I v2)), (11, .ptr 4 0), (20, .d (I (shl64 1 (x.Horses.length : Int)))), (21, .d (I v1)), (27, .d (.sl 3 (List.map e69 x.Horses))), (28, .d (I (x.Horses.length : Int))), (29, .d (I v2)), (38, .d (.bool (decide ((bAnd (shr64 v1 v2) 1) = 1))))], [(4, .var 69 [.d (I p.Mane), .d (I p.Tail), .d (I p.Shade)]), (1, .var 25 [.d (.sl 4 (List.map e58 x.Hanks)), .own 3 (List.map e69 l1).length, .d (I x.Dark), .d (I x.Near), .d (I x.Match)]), (3, .row 69 3 (List.map e69 l1)), (2, .row 3 1 (List.map e3 l)), (0, .var 25 (cv25 x))], 5, Fr.emp, [], 0⟩ (by kernel_rfl) ?_
    refine RW.nil ?_
    refine hQ_19 _ ?_
    refine AW.cond rfl (fun hb_21 => ?_) (fun hb_21 => ?_)
    ·have h := ifT hb_21 h
     refine AW.rw ?_
     refine RW.au fokW 3 [] ⟨[(1, .ptr 0 0), (5, .d (.sl 1 (List.map e3 best1))), (6, .d (.bool found1)), (7, .d (I v1)), (8, .ptr 1 0), (20, .d (I (shl64 1 (x.Horses.length : Int)))), (21, .d (I v1)), (27, .d (.sl 3 (List.map e69 x.Horses))), (28, .d (I (x.Horses.length : Int))), (29, .d (I v2)), (39, .own 2 (List.map e3 l).length), (41, .own 5 (List.map e3 [v2]).length)], [(5, .row 3 1 (List.map e3 [v2])), (1, .var 25 [.d (.sl 4 (List.map e58 x.Hanks)), .own 3 (List.map e69 l1).length, .d (I x.Dark), .d (I x.Near), .d (I x.Match)]), (3, .row 69 3 (List.map e69 l1)), (2, .row 3 1 (List.map e3 l)), (0, .var 25 (cv25 x))], 6, Fr.emp, [], 0⟩ (by kernel_rfl) ?_
     obtain ⟨l2, hv_23, h⟩ := bsome h
     refine RW.one fokW (r_apO trivial rfl rfl rfl rfl rfl rfl (apz hv_23 e3) (apr hv_23 e3) (r_end ?_))
     refine RW.au fokW 1 [] ⟨[(1, .ptr 0 0), (5, .d (.sl 1 (List.map e3 best1))), (6, .d (.bool found1)), (7, .d (I v1)), (8, .ptr 1 0), (9, .own 2 (List.map e3 l2).length), (20, .d (I (shl64 1 (x.Horses.length : Int)))), (21, .d (I v1)), (27, .d (.sl 3 (List.map e69 x.Horses))), (28, .d (I (x.Horses.length : Int))), (29, .d (I v2))], [(2, .row 3 1 (List.map e3 l2)), (1, .var 25 [.d (.sl 4 (List.map e58 x.Hanks)), .own 3 (List.map e69 l1).length, .d (I x.Dark), .d (I x.Near), .d (I x.Match)]), (3, .row 69 3 (List.map e69 l1)), (0, .var 25 (cv25 x))], 6, Fr.emp, [], 0⟩ (by kernel_rfl) ?_
     refine RW.nil ?_
     refine hK_17 _ ?_
     refine AW.ra fokW [] ⟨[(1, .ptr 0 0), (5, .d (.sl 1 (List.map e3 best1))), (6, .d (.bool found1)), (7, .d (I v1)), (8, .ptr 1 0), (9, .own 2 (List.map e3 l2).length), (20, .d (I (shl64 1 (x.Horses.length : Int)))), (21, .d (I v1)), (27, .d (.sl 3 (List.map e69 x.Horses))), (28, .d (I (x.Horses.length : Int))), (29, .d (I (wr (v2 + 1))))], [(2, .row 3 1 (List.map e3 l2)), (1, .var 25 [.d (.sl 4 (List.map e58 x.Hanks)), .own 3 (List.map e69 l1).length, .d (I x.Dark), .d (I x.Near), .d (I x.Match)]), (3, .row 69 3 (List.map e69 l1)), (0, .var 25 (cv25 x))], 6, Fr.emp, [], 0⟩ (by kernel_rfl) ?_
     obtain rfl := Option.some.inj h
     have ew : wr (v2 + 1) = v2 + 1 := inext (N := (x.Horses.length : Int)) (by omega) (by omega) (by omega)
     rw [ew]
     exact hK_14 _ (Can.kp (by kernel_rfl))
    ·have h := ifF hb_21 h
     refine AW.rw ?_
     refine RW.au fokW 4 [] ⟨[(1, .ptr 0 0), (5, .d (.sl 1 (List.map e3 best1))), (6, .d (.bool found1)), (7, .d (I v1)), (8, .ptr 1 0), (9, .own 2 (List.map e3 l).length), (20, .d (I (shl64 1 (x.Horses.length : Int)))), (21, .d (I v1)), (27, .d (.sl 3 (List.map e69 x.Horses))), (28, .d (I (x.Horses.length : Int))), (29, .d (I v2)), (44, .own 3 (List.map e69 l1).length), (46, .own 5 (List.map e69 [p]).length)], [(5, .row 69 3 (List.map e69 [p])), (1, .var 25 [.d (.sl 4 (List.map e58 x.Hanks)), .own 3 (List.map e69 l1).length, .d (I x.Dark), .d (I x.Near), .d (I x.Match)]), (3, .row 69 3 (List.map e69 l1)), (2, .row 3 1 (List.map e3 l)), (0, .var 25 (cv25 x))], 6, Fr.emp, [], 0⟩ (by kernel_rfl) ?_
     obtain ⟨l3, hv_25, h⟩ := bsome h
     refine RW.one fokW (r_apO trivial rfl rfl rfl rfl rfl rfl (apz hv_25 e69) (apr hv_25 e69) (r_end ?_))
     refine RW.au fokW 2 [] ⟨[(1, .ptr 0 0), (5, .d (.sl 1 (List.map e3 best1))), (6, .d (.bool found1)), (7, .d (I v1)), (8, .ptr 1 0), (9, .own 2 (List.map e3 l).length), (20, .d (I (shl64 1 (x.Horses.length : Int)))), (21, .d (I v1)), (27, .d (.sl 3 (List.map e69 x.Horses))), (28, .d (I (x.Horses.length : Int))), (29, .d (I v2))], [(1, .var 25 [.d (.sl 4 (List.map e58 x.Hanks)), .own 3 (List.map e69 l3).length, .d (I x.Dark), .d (I x.Near), .d (I x.Match)]), (3, .row 69 3 (List.map e69 l3)), (2, .row 3 1 (List.map e3 l)), (0, .var 25 (cv25 x))], 6, Fr.emp, [], 0⟩ (by kernel_rfl) ?_
     refine RW.nil ?_
     refine hK_17 _ ?_
     refine AW.ra fokW [] ⟨[(1, .ptr 0 0), (5, .d (.sl 1 (List.map e3 best1))), (6, .d (.bool found1)), (7, .d (I v1)), (8, .ptr 1 0), (9, .own 2 (List.map e3 l).length), (20, .d (I (shl64 1 (x.Horses.length : Int)))), (21, .d (I v1)), (27, .d (.sl 3 (List.map e69 x.Horses))), (28, .d (I (x.Horses.length : Int))), (29, .d (I (wr (v2 + 1))))], [(1, .var 25 [.d (.sl 4 (List.map e58 x.Hanks)), .own 3 (List.map e69 l3).length, .d (I x.Dark), .d (I x.Near), .d (I x.Match)]), (3, .row 69 3 (List.map e69 l3)), (2, .row 3 1 (List.map e3 l)), (0, .var 25 (cv25 x))], 6, Fr.emp, [], 0⟩ (by kernel_rfl) ?_
     obtain rfl := Option.some.inj h
     have ew : wr (v2 + 1) = v2 + 1 := inext (N := (x.Horses.length : Int)) (by omega) (by omega) (by omega)
     rw [ew]
     exact hK_14 _ (Can.kp (by kernel_rfl))
   ·obtain ⟨l, l1⟩ := s_14
    subst hout
    refine AW.sa fokW [] ⟨[(1, .ptr 0 0), (5, .d (.sl 1 (List.map e3 best1))), (6, .d (.bool found1)), (7, .d (I v1)), (8, .ptr 1 0), (9, .own 2 (List.map e3 l).length), (20, .d (I (shl64 1 (x.Horses.length : Int)))), (21, .d (I v1)), (27, .d (.sl 3 (List.map e69 x.Horses))), (28, .d (I (x.Horses.length : Int))), (29, .d (I v2)), (30, .d (.bool (decide (v2 < (x.Horses.length : Int)))))], [(1, .var 25 [.d (.sl 4 (List.map e58 x.Hanks)), .own 3 (List.map e69 l1).length, .d (I x.Dark), .d (I x.Near), .d (I x.Match)]), (3, .row 69 3 (List.map e69 l1)), (2, .row 3 1 (List.map e3 l)), (0, .var 25 (cv25 x))], 4, Fr.emp, [], 0⟩ (by kernel_rfl) ?_
    refine AW.seqK (fun K_26 hK_26 => ?_)
    refine AW.cond rfl (fun hb_27 => False.elim (by have := of_decide_eq_true hb_27; omega)) (fun hb_27 => ?_)
    refine AW.exit ?_
    refine hK_12 _ ?_
    refine AW.seqK (fun K_28 hK_28 => ?_)
    refine AW.srwK (fun Q_29 hQ_29 => ?_)
    refine RW.au fokW 2 [] ⟨[(1, .ptr 0 0), (5, .d (.sl 1 (List.map e3 best1))), (6, .d (.bool found1)), (8, .ptr 1 0), (9, .own 2 (List.map e3 l).length), (20, .d (I (shl64 1 (x.Horses.length : Int)))), (21, .d (I v1)), (51, .d (.bool found1))], [(1, .var 25 [.d (.sl 4 (List.map e58 x.Hanks)), .own 3 (List.map e69 l1).length, .d (I x.Dark), .d (I x.Near), .d (I x.Match)]), (3, .row 69 3 (List.map e69 l1)), (2, .row 3 1 (List.map e3 l)), (0, .var 25 (cv25 x))], 4, Fr.emp, [], 0⟩ (by kernel_rfl) ?_
    obtain ⟨v3, hx_30, h⟩ := bsome h
    refine RW.cut fokW 19 (⟨[(1, .ptr 0 0), (5, .d (.sl 1 (List.map e3 best1))), (6, .d (.bool found1)), (8, .ptr 1 0), (9, .own 2 (List.map e3 l).length), (20, .d (I (shl64 1 (x.Horses.length : Int)))), (21, .d (I v1)), (70, .d (.bool v3))], [(1, .var 25 [.d (.sl 4 (List.map e58 x.Hanks)), .own 3 (List.map e69 l1).length, .d (I x.Dark), .d (I x.Near), .d (I x.Match)]), (3, .row 69 3 (List.map e69 l1)), (2, .row 3 1 (List.map e3 l)), (0, .var 25 (cv25 x))], 4, Fr.emp, [], 0⟩) ?_ ?_
    ·refine r_split 51 rfl (fun hb_34 => ?_) (fun hb_34 => ?_)
     ·have h := ifT hb_34 hx_30
      refine RunC.auX 1 ⟨[(1, .ptr 0 0), (5, .d (.sl 1 (List.map e3 best1))), (6, .d (.bool found1)), (8, .ptr 1 0), (9, .own 2 (List.map e3 l).length), (20, .d (I (shl64 1 (x.Horses.length : Int)))), (21, .d (I v1)), (51, .d (.bool true)), (52, .own 2 (List.map e3 l).length)], [(1, .var 25 [.d (.sl 4 (List.map e58 x.Hanks)), .own 3 (List.map e69 l1).length, .d (I x.Dark), .d (I x.Near), .d (I x.Match)]), (3, .row 69 3 (List.map e69 l1)), (2, .row 3 1 (List.map e3 l)), (0, .var 25 (cv25 x))], 4, Fr.emp, [], 0⟩ (by kernel_rfl) ?_
      refine r_lenY rfl rfl lenm ?_
      refine RunC.auX 1 ⟨[(1, .ptr 0 0), (5, .d (.sl 1 (List.map e3 best1))), (6, .d (.bool found1)), (8, .ptr 1 0), (9, .own 2 (List.map e3 l).length), (20, .d (I (shl64 1 (x.Horses.length : Int)))), (21, .d (I v1)), (51, .d (.bool true)), (53, .d (I (l.length : Int))), (54, .d (.sl 1 (List.map e3 best1)))], [(1, .var 25 [.d (.sl 4 (List.map e58 x.Hanks)), .own 3 (List.map e69 l1).length, .d (I x.Dark), .d (I x.Near), .d (I x.Match)]), (3, .row 69 3 (List.map e69 l1)), (2, .row 3 1 (List.map e3 l)), (0, .var 25 (cv25 x))], 4, Fr.emp, [], 0⟩ (by kernel_rfl) ?_
      refine r_lenX rfl rfl lenm ?_
      refine RunC.auX 2 ⟨[(1, .ptr 0 0), (5, .d (.sl 1 (List.map e3 best1))), (6, .d (.bool found1)), (8, .ptr 1 0), (9, .own 2 (List.map e3 l).length), (20, .d (I (shl64 1 (x.Horses.length : Int)))), (21, .d (I v1)), (51, .d (.bool true)), (57, .d (.bool (decide ((best1.length : Int) < (l.length : Int)))))], [(1, .var 25 [.d (.sl 4 (List.map e58 x.Hanks)), .own 3 (List.map e69 l1).length, .d (I x.Dark), .d (I x.Near), .d (I x.Match)]), (3, .row 69 3 (List.map e69 l1)), (2, .row 3 1 (List.map e3 l)), (0, .var 25 (cv25 x))], 4, Fr.emp, [], 0⟩ (by kernel_rfl) ?_
      refine r_split 57 rfl (fun hb_31 => ?_) (fun hb_31 => ?_)
      ·have h := ifT hb_31 h
       refine RunC.auX 13 ⟨[(1, .ptr 0 0), (5, .d (.sl 1 (List.map e3 best1))), (6, .d (.bool found1)), (8, .ptr 1 0), (9, .own 2 (List.map e3 l).length), (20, .d (I (shl64 1 (x.Horses.length : Int)))), (21, .d (I v1)), (70, .d (.bool true))], [(1, .var 25 [.d (.sl 4 (List.map e58 x.Hanks)), .own 3 (List.map e69 l1).length, .d (I x.Dark), .d (I x.Near), .d (I x.Match)]), (3, .row 69 3 (List.map e69 l1)), (2, .row 3 1 (List.map e3 l)), (0, .var 25 (cv25 x))], 4, Fr.emp, [], 0⟩ (by kernel_rfl) ?_
       obtain rfl := Option.some.inj h
       refine RunC.finJ (Can.kp (by kernel_rfl))
      ·have h := ifF hb_31 h
       refine RunC.auX 1 ⟨[(1, .ptr 0 0), (5, .d (.sl 1 (List.map e3 best1))), (6, .d (.bool found1)), (8, .ptr 1 0), (9, .own 2 (List.map e3 l).length), (20, .d (I (shl64 1 (x.Horses.length : Int)))), (21, .d (I v1)), (51, .d (.bool true)), (57, .d (.bool false)), (58, .own 2 (List.map e3 l).length)], [(1, .var 25 [.d (.sl 4 (List.map e58 x.Hanks)), .own 3 (List.map e69 l1).length, .d (I x.Dark), .d (I x.Near), .d (I x.Match)]), (3, .row 69 3 (List.map e69 l1)), (2, .row 3 1 (List.map e3 l)), (0, .var 25 (cv25 x))], 4, Fr.emp, [], 0⟩ (by kernel_rfl) ?_
       refine r_lenY rfl rfl lenm ?_
       refine RunC.auX 1 ⟨[(1, .ptr 0 0), (5, .d (.sl 1 (List.map e3 best1))), (6, .d (.bool found1)), (8, .ptr 1 0), (9, .own 2 (List.map e3 l).length), (20, .d (I (shl64 1 (x.Horses.length : Int)))), (21, .d (I v1)), (51, .d (.bool true)), (57, .d (.bool false)), (59, .d (I (l.length : Int))), (60, .d (.sl 1 (List.map e3 best1)))], [(1, .var 25 [.d (.sl 4 (List.map e58 x.Hanks)), .own 3 (List.map e69 l1).length, .d (I x.Dark), .d (I x.Near), .d (I x.Match)]), (3, .row 69 3 (List.map e69 l1)), (2, .row 3 1 (List.map e3 l)), (0, .var 25 (cv25 x))], 4, Fr.emp, [], 0⟩ (by kernel_rfl) ?_
       refine r_lenX rfl rfl lenm ?_
       refine RunC.auX 2 ⟨[(1, .ptr 0 0), (5, .d (.sl 1 (List.map e3 best1))), (6, .d (.bool found1)), (8, .ptr 1 0), (9, .own 2 (List.map e3 l).length), (20, .d (I (shl64 1 (x.Horses.length : Int)))), (21, .d (I v1)), (51, .d (.bool true)), (57, .d (.bool false)), (63, .d (.bool (decide ((l.length : Int) = (best1.length : Int)))))], [(1, .var 25 [.d (.sl 4 (List.map e58 x.Hanks)), .own 3 (List.map e69 l1).length, .d (I x.Dark), .d (I x.Near), .d (I x.Match)]), (3, .row 69 3 (List.map e69 l1)), (2, .row 3 1 (List.map e3 l)), (0, .var 25 (cv25 x))], 4, Fr.emp, [], 0⟩ (by kernel_rfl) ?_
       refine r_split 63 rfl (fun hb_32 => ?_) (fun hb_32 => ?_)
       ·have h := ifT hb_32 h
        refine RunC.auX 2 ⟨[(1, .ptr 0 0), (5, .d (.sl 1 (List.map e3 best1))), (6, .d (.bool found1)), (8, .ptr 1 0), (9, .own 2 (List.map e3 l).length), (20, .d (I (shl64 1 (x.Horses.length : Int)))), (21, .d (I v1)), (51, .d (.bool true)), (57, .d (.bool false)), (63, .d (.bool true)), (64, .own 2 (List.map e3 l).length), (65, .d (.sl 1 (List.map e3 best1)))], [(1, .var 25 [.d (.sl 4 (List.map e58 x.Hanks)), .own 3 (List.map e69 l1).length, .d (I x.Dark), .d (I x.Near), .d (I x.Match)]), (3, .row 69 3 (List.map e69 l1)), (2, .row 3 1 (List.map e3 l)), (0, .var 25 (cv25 x))], 4, Fr.emp, [], 0⟩ (by kernel_rfl) ?_
        obtain ⟨r0_3, hx_33, h⟩ := bsome h
        refine r_callF (rs := [(2, .row 3 1 (List.map e3 l))]) rfl rfl (k83 l best1 _ hx_33) ⟨rfl, trivial⟩ ⟨(.own rfl rfl), .refl _, trivial⟩ rfl rfl rfl ?_
        refine RunC.auX 4 ⟨[(1, .ptr 0 0), (5, .d (.sl 1 (List.map e3 best1))), (6, .d (.bool found1)), (8, .ptr 1 0), (9, .own 2 (List.map e3 l).length), (20, .d (I (shl64 1 (x.Horses.length : Int)))), (21, .d (I v1)), (70, .d (.bool (decide (0 ≤ r0_3))))], [(1, .var 25 [.d (.sl 4 (List.map e58 x.Hanks)), .own 3 (List.map e69 l1).length, .d (I x.Dark), .d (I x.Near), .d (I x.Match)]), (3, .row 69 3 (List.map e69 l1)), (2, .row 3 1 (List.map e3 l)), (0, .var 25 (cv25 x))], 4, Fr.emp, [], 0⟩ (by kernel_rfl) ?_
        obtain rfl := Option.some.inj h
        refine RunC.finJ (Can.kp (by kernel_rfl))
       ·have h := ifF hb_32 h
        refine RunC.auX 7 ⟨[(1, .ptr 0 0), (5, .d (.sl 1 (List.map e3 best1))), (6, .d (.bool found1)), (8, .ptr 1 0), (9, .own 2 (List.map e3 l).length), (20, .d (I (shl64 1 (x.Horses.length : Int)))), (21, .d (I v1)), (70, .d (.bool false))], [(1, .var 25 [.d (.sl 4 (List.map e58 x.Hanks)), .own 3 (List.map e69 l1).length, .d (I x.Dark), .d (I x.Near), .d (I x.Match)]), (3, .row 69 3 (List.map e69 l1)), (2, .row 3 1 (List.map e3 l)), (0, .var 25 (cv25 x))], 4, Fr.emp, [], 0⟩ (by kernel_rfl) ?_
        obtain rfl := Option.some.inj h
        refine RunC.finJ (Can.kp (by kernel_rfl))
     ·have h := ifF hb_34 hx_30
      refine RunC.auX 19 ⟨[(1, .ptr 0 0), (5, .d (.sl 1 (List.map e3 best1))), (6, .d (.bool found1)), (8, .ptr 1 0), (9, .own 2 (List.map e3 l).length), (20, .d (I (shl64 1 (x.Horses.length : Int)))), (21, .d (I v1)), (70, .d (.bool false))], [(1, .var 25 [.d (.sl 4 (List.map e58 x.Hanks)), .own 3 (List.map e69 l1).length, .d (I x.Dark), .d (I x.Near), .d (I x.Match)]), (3, .row 69 3 (List.map e69 l1)), (2, .row 3 1 (List.map e3 l)), (0, .var 25 (cv25 x))], 4, Fr.emp, [], 0⟩ (by kernel_rfl) ?_
      obtain rfl := Option.some.inj h
      refine RunC.finJ (Can.kp (by kernel_rfl))
    ·refine RW.nil ?_
     refine hQ_29 _ ?_
     refine AW.cond rfl (fun hb_35 => ?_) (fun hb_35 => ?_)
     ·have h := ifT hb_35 h
      refine AW.exit ?_
      refine hK_11 _ ?_
      refine AW.ra fokW [] ⟨[(1, .ptr 0 0), (5, .d (.sl 1 (List.map e3 best1))), (6, .d (.bool found1)), (20, .d (I (shl64 1 (x.Horses.length : Int)))), (21, .d (I (wr (v1 + 1))))], [(0, .var 25 (cv25 x))], 4, Fr.emp, [], 0⟩ (by kernel_rfl) ?_
      obtain rfl := Option.some.inj h
      have ew : wr (v1 + 1) = v1 + 1 := inext (N := (shl64 1 (x.Horses.length : Int))) (by omega) (by omega) (by omega)
      rw [ew]
      exact hK_8 _ (Can.kp (by kernel_rfl))
     ·have h := ifF hb_35 h
      refine AW.skip ?_
      refine hK_28 _ ?_
      refine AW.srwK (fun Q_36 hQ_36 => ?_)
      refine RW.au fokW 1 [] ⟨[(1, .ptr 0 0), (5, .d (.sl 1 (List.map e3 best1))), (6, .d (.bool found1)), (9, .own 2 (List.map e3 l).length), (20, .d (I (shl64 1 (x.Horses.length : Int)))), (21, .d (I v1)), (71, .agg [.d (.sl 4 (List.map e58 x.Hanks)), .own 3 (List.map e69 l1).length, .d (I x.Dark), .d (I x.Near), .d (I x.Match)])], [(3, .row 69 3 (List.map e69 l1)), (2, .row 3 1 (List.map e3 l)), (0, .var 25 (cv25 x))], 4, Fr.emp, [], 0⟩ (by kernel_rfl) ?_
      obtain ⟨⟨r0_B, mf⟩, hx_37, h⟩ := bsome h
      refine RW.one fokW (r_callZ (zr := [(3, .row 69 3 (List.map e69 l1))]) trivial rfl (k80 (HairBook.mk x.Hanks l1 x.Dark x.Near x.Match) _ hx_37) ⟨rfl, trivial⟩ ⟨(Frz.agg_of ⟨.refl _, (.own rfl rfl), .refl _, .refl _, .refl _, trivial⟩), trivial⟩ rfl rfl rfl rfl (r_end ?_))
      obtain ⟨r0_1, hx_38, h⟩ := bsome h
      refine RW.one fokW (r_call trivial rfl (k84 r0_B mf _ hx_38) rfl rfl (r_end ?_))
      refine RW.nil ?_
      refine hQ_36 _ ?_
      refine AW.cond rfl (fun hb_39 => ?_) (fun hb_39 => ?_)
      ·have h := ifT hb_39 h
       refine AW.ra fokW [] ⟨[(1, .ptr 0 0), (5, .own 2 (List.map e3 l).length), (6, .d (.bool true)), (20, .d (I (shl64 1 (x.Horses.length : Int)))), (21, .d (I v1))], [(2, .row 3 1 (List.map e3 l)), (0, .var 25 (cv25 x))], 4, Fr.emp, [], 0⟩ (by kernel_rfl) ?_
       refine hK_11 _ ?_
       refine AW.ra fokW [] ⟨[(1, .ptr 0 0), (5, .own 2 (List.map e3 l).length), (6, .d (.bool true)), (20, .d (I (shl64 1 (x.Horses.length : Int)))), (21, .d (I (wr (v1 + 1))))], [(2, .row 3 1 (List.map e3 l)), (0, .var 25 (cv25 x))], 4, Fr.emp, [], 0⟩ (by kernel_rfl) ?_
       obtain rfl := Option.some.inj h
       have ew : wr (v1 + 1) = v1 + 1 := inext (N := (shl64 1 (x.Horses.length : Int))) (by omega) (by omega) (by omega)
       rw [ew]
       exact hK_8 _ (Can.trans (Can.fzE 5 2 rfl rfl rfl) (Can.kp (by kernel_rfl)))
      ·have h := ifF hb_39 h
       refine AW.skip ?_
       refine hK_11 _ ?_
       refine AW.ra fokW [] ⟨[(1, .ptr 0 0), (5, .d (.sl 1 (List.map e3 best1))), (6, .d (.bool found1)), (20, .d (I (shl64 1 (x.Horses.length : Int)))), (21, .d (I (wr (v1 + 1))))], [(0, .var 25 (cv25 x))], 4, Fr.emp, [], 0⟩ (by kernel_rfl) ?_
       obtain rfl := Option.some.inj h
       have ew : wr (v1 + 1) = v1 + 1 := inext (N := (shl64 1 (x.Horses.length : Int))) (by omega) (by omega) (by omega)
       rw [ew]
       exact hK_8 _ (Can.kp (by kernel_rfl))
  ·obtain ⟨best1, found1⟩ := s_8
   subst hout
   refine AW.sa fokW [] ⟨[(1, .ptr 0 0), (5, .d (.sl 1 (List.map e3 best1))), (6, .d (.bool found1)), (20, .d (I (shl64 1 (x.Horses.length : Int)))), (21, .d (I v1)), (22, .d (.bool (decide (v1 < (shl64 1 (x.Horses.length : Int))))))], [(0, .var 25 (cv25 x))], 1, Fr.emp, [], 0⟩ (by kernel_rfl) ?_
   refine AW.seqK (fun K_40 hK_40 => ?_)
   refine AW.cond rfl (fun hb_41 => False.elim (by have := of_decide_eq_true hb_41; omega)) (fun hb_41 => ?_)
   refine AW.exit ?_
   refine hK_5 _ ?_
   refine AW.srwK (fun Q_42 hQ_42 => ?_)
   refine RW.au fokW 2 [] ⟨[(5, .d (.sl 1 (List.map e3 best1))), (76, .d (.sl 1 (List.map e3 best1))), (77, .d (.sl 1 (List.map e3 best1)))], [], 1, Fr.emp, [], 0⟩ (by kernel_rfl) ?_
   refine RW.one fokW (r_lenX trivial rfl lenm (r_end ?_))
   refine RW.au fokW 1 [] ⟨[(76, .d (.sl 1 (List.map e3 best1))), (78, .d (I (best1.length : Int))), (79, .d (.sl 1 (List.map e3 best1)))], [], 1, Fr.emp, [], 0⟩ (by kernel_rfl) ?_
   refine RW.one fokW (r_lenX trivial rfl lenm (r_end ?_))
   obtain ⟨l4, hv_43, h⟩ := bsome h
   refine RW.one fokW (r_slN trivial rfl rfl rfl DSl.d (slcL_ok hv_43).2.1 (by rw [List.length_map]; exact (slcL_ok hv_43).2.2.1) rfl (slz hv_43 e3) (r_end ?_))
   refine RW.au fokW 2 [] ⟨[(2, .fsl 1 (List.map e3 l4)), (3, .d (I 0))], [], 1, Fr.emp, [], 0⟩ (by kernel_rfl) ?_
   refine RW.nil ?_
   refine hQ_42 _ ?_
   obtain rfl := Option.some.inj h
   exact AW.ret (hR_0 _ (retX (.cons (.tmp rfl) (.cons (.tmp rfl) .nil)) (Frz.tup_of ⟨.fsl _ _, .refl _, trivial⟩) rfl (by kernel_rfl) (by kernel_rfl)))
def g87 (_B : HairBook) (mf : List (Hair_dye × Span)) (o0 : Int) : Option Bool := (g57 o0 0 20).bind fun r0 => some r0
theorem k87 (_B : HairBook) (mf : List (Hair_dye × Span)) (o0 : Int) (r : Bool) (h : g87 _B mf o0 = some r) : SCall Tryd.prog Gs 87 [.agg (hbm _B mf), .ptr 0 0] [(0, .var 3 [.d (I o0)])] 1 Fr.emp (.d (.bool r)) [(0, .var 3 [.d (I o0)])] 1 Fr.emp := by
 unfold g87 at h
 refine SCall.mkK Tryd.func87 c87 rfl rfl (by kernel_rfl) (fun Q_0 hR_0 hN_0 => ?_)
 refine AW.sa fokW [] ⟨[(1, .ptr 0 0)], [(0, .var 3 [.d (I o0)])], 2, Fr.emp, [], 1⟩ (by kernel_rfl) ?_
 refine AW.srwK (fun Q_1 hQ_1 => ?_)
 refine RW.au fokW 1 [] ⟨[(4, .d (I o0))], [(0, .var 3 [.d (I o0)])], 2, Fr.emp, [], 1⟩ (by kernel_rfl) ?_
 obtain ⟨r0, hx_2, h⟩ := bsome h
 refine RW.one fokW (r_call trivial rfl (k57 o0 0 20 _ hx_2) rfl rfl (r_end ?_))
 refine RW.au fokW 1 [] ⟨[(3, .d (.bool r0))], [(0, .var 3 [.d (I o0)])], 2, Fr.emp, [], 1⟩ (by kernel_rfl) ?_
 refine RW.nil ?_
 refine hQ_1 _ ?_
 obtain rfl := Option.some.inj h
 exact AW.ret (hR_0 _ (retX (.cons (.tmp rfl) .nil) (.refl _) rfl (by kernel_rfl) (by kernel_rfl)))
end Go.Proofs.Th
