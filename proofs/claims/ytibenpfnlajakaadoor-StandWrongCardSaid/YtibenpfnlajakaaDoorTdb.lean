/- Told functions, and that the program does so, part 2. Conditions: none. -/
import Derived.Test.YtibenpfnlajakaaDoorTda
set_option linter.unusedVariables false
set_option linter.unusedSimpArgs false
namespace Go.Proofs.Tz
open Go Go.Abs Go.Proofs
def g73a_8 (bB : StandBook) (bT : (List (Nat → Int))) (bL : Stand_load) (c : Stand_child) : Int → (Nat → Int) → (Int × Int) → Option (Int × Int) := fun v p (Top, Bottom) => (g95 bB bT bL p c).bind fun r0 => ((ixN 2 bB.Kind).bind fun j => match j with | 0 => (g121 bB bT bL r0).bind fun r0_1 => some r0_1 | 1 => (g122 bB bT bL r0).bind fun r0_1_1 => some r0_1_1 | _ => none).bind fun Top1 => (bif (decide (v = 0)) then (some true) else ((g103 (StandRatio.mk Top1 r0.weight) (StandRatio.mk Top Bottom)).bind fun r0_2 => some r0_2)).bind fun v1 => bif v1 then (some (Top1, r0.weight)) else (some (Top, Bottom))
def g73a (bB : StandBook) (bT : (List (Nat → Int))) (bL : Stand_load) (c : Stand_child) (m0 : List (Stand_child × StandRatio)) : Option (StandRatio × (List (Stand_child × StandRatio))) := bif (mget q94 m0 c).isSome then (some (((mget q94 m0 c).getD (StandRatio.mk 0 0)), m0)) else ((g96).bind fun _ => (eachS (g73a_8 bB bT bL c) bT 0 (0, 0)).bind fun (Top, Bottom) => (g97 (StandRatio.mk Top Bottom)).bind fun r0_3 => (mput q94 m0 c r0_3).bind fun m => some (((mget q94 m c).getD (StandRatio.mk 0 0)), m))
theorem k73a (bB : StandBook) (bT : (List (Nat → Int))) (bL : Stand_load) (c : Stand_child) (m0 : List (Stand_child × StandRatio)) (r : StandRatio × (List (Stand_child × StandRatio))) (h : g73a bB bT bL c m0 = some r) : SCall Tryd.prog Gs 73 [.agg [.d (I bB.Kind), .d (I bB.Front), .d (I bB.Back), .d (I bB.Radius), .d (.sl 4 (List.map e70 bB.Parts)), .d (I bB.Along), .d (I bB.High), .d (I bB.Lean_), .d (I bB.Limit), .d (.sl 3 (List.map e65 bB.Trials)), .d (.sl 4 (List.map e92 bT)), .d (I bL.weight), .d (I bL.along), .d (I bL.high), .map 0], .agg [.d (I c.weight), .d (I c.lean)]] [(0, .mp (List.map m94_34 m0))] 1 Fr.emp (match r with | (r0_5, m0_2) => .agg [.d (I r0_5.Top), .d (I r0_5.Bottom)]) (match r with | (r0_5, m0_2) => [(0, .mp (List.map m94_34 m0_2))]) 1 Fr.emp := by
 unfold g73a at h
 refine SCall.mkK Tryd.func73 c73 rfl rfl (by kernel_rfl) (fun Q_0 hR_0 hN_0 => ?_)
 refine AW.sa fokW [] ⟨[(2, .ptr 1 0), (3, .ptr 2 0), (4, .ptr 3 0)], [(3, .var 34 [.d (I 0), .d (I 0)]), (2, .var 94 [.d (I c.weight), .d (I c.lean)]), (1, .var 83 (bkV bB bT bL (.map 0))), (0, .mp (List.map m94_34 m0))], 4, Fr.emp, [], 1⟩ (by kernel_rfl) ?_
 refine AW.seqK (fun K_1 hK_1 => ?_)
 refine AW.srwK (fun Q_2 hQ_2 => ?_)
 refine RW.au fokW 3 [] ⟨[(2, .ptr 1 0), (3, .ptr 2 0), (4, .ptr 3 0), (15, .map 0), (16, .agg [.d (I c.weight), .d (I c.lean)])], [(3, .var 34 [.d (I 0), .d (I 0)]), (2, .var 94 [.d (I c.weight), .d (I c.lean)]), (1, .var 83 (bkV bB bT bL (.map 0))), (0, .mp (List.map m94_34 m0))], 4, Fr.emp, [], 1⟩ (by kernel_rfl) ?_
 refine RW.one fokW (r_lookA q94 e94 e34 m0 c (StandRatio.mk 0 0) trivial rfl rfl rfl ft94 q94_ok (fun _ => rfl) rfl (r_end ?_))
 refine RW.au fokW 6 [] ⟨[(2, .ptr 1 0), (3, .ptr 2 0), (4, .ptr 3 0), (5, .ptr 4 0), (6, .d (.bool ((mget q94 m0 c).isSome)))], [(4, .var 34 [.d (I (((mget q94 m0 c).getD (StandRatio.mk 0 0)).Top)), .d (I (((mget q94 m0 c).getD (StandRatio.mk 0 0)).Bottom))]), (3, .var 34 [.d (I 0), .d (I 0)]), (2, .var 94 [.d (I c.weight), .d (I c.lean)]), (1, .var 83 (bkV bB bT bL (.map 0))), (0, .mp (List.map m94_34 m0))], 5, Fr.emp, [], 1⟩ (by kernel_rfl) ?_
 refine RW.nil ?_
 refine hQ_2 _ ?_
 refine AW.sa fokW [] ⟨[(2, .ptr 1 0), (3, .ptr 2 0), (4, .ptr 3 0), (5, .ptr 4 0), (20, .d (.bool ((mget q94 m0 c).isSome)))], [(4, .var 34 [.d (I (((mget q94 m0 c).getD (StandRatio.mk 0 0)).Top)), .d (I (((mget q94 m0 c).getD (StandRatio.mk 0 0)).Bottom))]), (3, .var 34 [.d (I 0), .d (I 0)]), (2, .var 94 [.d (I c.weight), .d (I c.lean)]), (1, .var 83 (bkV bB bT bL (.map 0))), (0, .mp (List.map m94_34 m0))], 5, Fr.emp, [], 1⟩ (by kernel_rfl) ?_
 refine AW.cond rfl (fun hb_3 => ?_) (fun hb_3 => ?_)
 ·have h := ifT hb_3 h
  refine AW.sa fokW [] ⟨[(4, .ptr 3 0)], [(3, .var 34 [.d (I (((mget q94 m0 c).getD (StandRatio.mk 0 0)).Top)), .d (I (((mget q94 m0 c).getD (StandRatio.mk 0 0)).Bottom))]), (0, .mp (List.map m94_34 m0))], 5, Fr.emp, [], 1⟩ (by kernel_rfl) ?_
  obtain rfl := Option.some.inj h
  exact AW.ret (hR_0 _ (retX (.cons (.agg rfl rfl (Nat.le_of_ble_eq_true rfl)) .nil) (.refl _) rfl (by kernel_rfl) (by kernel_rfl)))
 ·have h := ifF hb_3 h
  refine AW.skip ?_
  refine hK_1 _ ?_
  refine AW.sa fokW [] ⟨[(2, .ptr 1 0), (3, .ptr 2 0), (4, .ptr 3 0), (7, .ptr 5 0)], [(5, .var 34 [.d (I 0), .d (I 0)]), (3, .var 34 [.d (I 0), .d (I 0)]), (2, .var 94 [.d (I c.weight), .d (I c.lean)]), (1, .var 83 (bkV bB bT bL (.map 0))), (0, .mp (List.map m94_34 m0))], 6, Fr.emp, [], 1⟩ (by kernel_rfl) ?_
  refine AW.srwK (fun Q_4 hQ_4 => ?_)
  obtain ⟨⟨⟩, hx_5, h⟩ := bsome h
  refine RW.one fokW (r_call trivial rfl (k96 _ hx_5) rfl rfl (r_end ?_))
  refine RW.au fokW 2 [] ⟨[(2, .ptr 1 0), (3, .ptr 2 0), (4, .ptr 3 0), (7, .ptr 5 0), (8, .ptr 6 0)], [(6, .var 123 [.d (.fn 103)]), (5, .var 34 [.d (I 0), .d (I 0)]), (3, .var 34 [.d (I 0), .d (I 0)]), (2, .var 94 [.d (I c.weight), .d (I c.lean)]), (1, .var 83 (bkV bB bT bL (.map 0))), (0, .mp (List.map m94_34 m0))], 7, Fr.emp, [], 1⟩ (by kernel_rfl) ?_
  refine RW.nil ?_
  refine hQ_4 _ ?_
  refine AW.seqK (fun K_6 hK_6 => ?_)
  refine AW.srwK (fun Q_7 hQ_7 => ?_)
  refine RW.au fokW 2 [] ⟨[(2, .ptr 1 0), (3, .ptr 2 0), (4, .ptr 3 0), (7, .ptr 5 0), (8, .ptr 6 0), (24, .d (.sl 4 (List.map e92 bT)))], [(6, .var 123 [.d (.fn 103)]), (5, .var 34 [.d (I 0), .d (I 0)]), (3, .var 34 [.d (I 0), .d (I 0)]), (2, .var 94 [.d (I c.weight), .d (I c.lean)]), (1, .var 83 (bkV bB bT bL (.map 0))), (0, .mp (List.map m94_34 m0))], 7, Fr.emp, [], 1⟩ (by kernel_rfl) ?_
  refine RW.one fokW (r_lenX trivial rfl lenm (r_end ?_))
  refine RW.au fokW 1 [] ⟨[(2, .ptr 1 0), (3, .ptr 2 0), (4, .ptr 3 0), (7, .ptr 5 0), (8, .ptr 6 0), (24, .d (.sl 4 (List.map e92 bT))), (25, .d (I (bT.length : Int))), (26, .d (I 0))], [(6, .var 123 [.d (.fn 103)]), (5, .var 34 [.d (I 0), .d (I 0)]), (3, .var 34 [.d (I 0), .d (I 0)]), (2, .var 94 [.d (I c.weight), .d (I c.lean)]), (1, .var 83 (bkV bB bT bL (.map 0))), (0, .mp (List.map m94_34 m0))], 7, Fr.emp, [], 1⟩ (by kernel_rfl) ?_
  refine RW.nil ?_
  refine hQ_7 _ ?_
  refine AW.block ?_
  refine AW.sln (t := 24) rfl (fun hN_8 => ?_)
  rw [List.length_map] at hN_8
  obtain ⟨out_8, hx_8, h⟩ := bsome h
  refine AW.evSK (fun (v : Int) (⟨Top, Bottom⟩ : Int × Int) => ⟨[(2, .ptr 1 0), (3, .ptr 2 0), (4, .ptr 3 0), (7, .ptr 5 0), (8, .ptr 6 0), (24, .d (.sl 4 (List.map e92 bT))), (25, .d (I (bT.length : Int))), (26, .d (I v))], [(6, .var 123 [.d (.fn 103)]), (5, .var 34 [.d (I Top), .d (I Bottom)]), (3, .var 34 [.d (I 0), .d (I 0)]), (2, .var 94 [.d (I c.weight), .d (I c.lean)]), (1, .var 83 (bkV bB bT bL (.map 0))), (0, .mp (List.map m94_34 m0))], 7, Fr.emp, [], 1⟩) (g73a_8 bB bT bL c) hx_8 (Can.kp (by kernel_rfl)) (fun v p s_8 hi_8 hl_8 hp_8 c_8 h K_8 hK_8 => ?_) (fun v s_8 hi_8 hl_8 hout => ?_)
  ·obtain ⟨Top, Bottom⟩ := s_8
   unfold g73a_8 at h
   refine AW.sa fokW [] ⟨[(2, .ptr 1 0), (3, .ptr 2 0), (4, .ptr 3 0), (7, .ptr 5 0), (8, .ptr 6 0), (24, .d (.sl 4 (List.map e92 bT))), (25, .d (I (bT.length : Int))), (26, .d (I v)), (27, .d (.bool (decide (v < (bT.length : Int)))))], [(6, .var 123 [.d (.fn 103)]), (5, .var 34 [.d (I Top), .d (I Bottom)]), (3, .var 34 [.d (I 0), .d (I 0)]), (2, .var 94 [.d (I c.weight), .d (I c.lean)]), (1, .var 83 (bkV bB bT bL (.map 0))), (0, .mp (List.map m94_34 m0))], 7, Fr.emp, [], 1⟩ (by kernel_rfl) ?_
   refine AW.seqK (fun K_9 hK_9 => ?_)
   refine AW.cond rfl (fun hb_10 => ?_) (fun hb_10 => False.elim (by have := of_decide_eq_false hb_10; omega))
   refine AW.skip ?_
   refine hK_9 _ ?_
   refine AW.seqK (fun K_11 hK_11 => ?_)
   refine AW.block ?_
   refine AW.srwK (fun Q_12 hQ_12 => ?_)
   refine RW.au fokW 1 [] ⟨[(2, .ptr 1 0), (3, .ptr 2 0), (4, .ptr 3 0), (7, .ptr 5 0), (8, .ptr 6 0), (24, .d (.sl 4 (List.map e92 bT))), (25, .d (I (bT.length : Int))), (26, .d (I v)), (28, .d (I v))], [(6, .var 123 [.d (.fn 103)]), (5, .var 34 [.d (I Top), .d (I Bottom)]), (3, .var 34 [.d (I 0), .d (I 0)]), (2, .var 94 [.d (I c.weight), .d (I c.lean)]), (1, .var 83 (bkV bB bT bL (.map 0))), (0, .mp (List.map m94_34 m0))], 7, Fr.emp, [], 1⟩ (by kernel_rfl) ?_
   refine RW.one fokW (r_iaD trivial rfl rfl hi_8 (row := e92 p) (mapget hp_8) (r_end ?_))
   refine RW.au fokW 4 [] ⟨[(2, .ptr 1 0), (3, .ptr 2 0), (4, .ptr 3 0), (7, .ptr 5 0), (8, .ptr 6 0), (9, .d (I v)), (10, .ptr 7 0), (24, .d (.sl 4 (List.map e92 bT))), (25, .d (I (bT.length : Int))), (26, .d (I v))], [(7, .var 92 [.d (I (p 0)), .d (I (p 1)), .d (I (p 2)), .d (I (p 3))]), (6, .var 123 [.d (.fn 103)]), (5, .var 34 [.d (I Top), .d (I Bottom)]), (3, .var 34 [.d (I 0), .d (I 0)]), (2, .var 94 [.d (I c.weight), .d (I c.lean)]), (1, .var 83 (bkV bB bT bL (.map 0))), (0, .mp (List.map m94_34 m0))], 8, Fr.emp, [], 1⟩ (by kernel_rfl) ?_
   refine RW.nil ?_
   refine hQ_12 _ ?_
   refine AW.srwK (fun Q_13 hQ_13 => ?_)
   refine RW.au fokW 3 [] ⟨[(2, .ptr 1 0), (3, .ptr 2 0), (4, .ptr 3 0), (7, .ptr 5 0), (8, .ptr 6 0), (9, .d (I v)), (24, .d (.sl 4 (List.map e92 bT))), (25, .d (I (bT.length : Int))), (26, .d (I v)), (31, .agg [.d (I bB.Kind), .d (I bB.Front), .d (I bB.Back), .d (I bB.Radius), .d (.sl 4 (List.map e70 bB.Parts)), .d (I bB.Along), .d (I bB.High), .d (I bB.Lean_), .d (I bB.Limit), .d (.sl 3 (List.map e65 bB.Trials)), .d (.sl 4 (List.map e92 bT)), .d (I bL.weight), .d (I bL.along), .d (I bL.high), .map 0]), (32, .agg [.d (I (p 0)), .d (I (p 1)), .d (I (p 2)), .d (I (p 3))]), (33, .agg [.d (I c.weight), .d (I c.lean)])], [(6, .var 123 [.d (.fn 103)]), (5, .var 34 [.d (I Top), .d (I Bottom)]), (3, .var 34 [.d (I 0), .d (I 0)]), (2, .var 94 [.d (I c.weight), .d (I c.lean)]), (1, .var 83 (bkV bB bT bL (.map 0))), (0, .mp (List.map m94_34 m0))], 8, Fr.emp, [], 1⟩ (by kernel_rfl) ?_
   obtain ⟨r0, hx_14, h⟩ := bsome h
   refine RW.one fokW (r_callZ (zr := []) trivial rfl (k95 bB bT bL p c _ hx_14) trivial ⟨(Frz.agg_of ⟨.refl _, .refl _, .refl _, .refl _, .refl _, .refl _, .refl _, .refl _, .refl _, .refl _, .refl _, .refl _, .refl _, .refl _, (.opq rfl (by intro _ h; cases h)), trivial⟩), .refl _, .refl _, trivial⟩ rfl rfl rfl rfl (r_end ?_))
   refine RW.au fokW 2 [] ⟨[(2, .ptr 1 0), (3, .ptr 2 0), (4, .ptr 3 0), (7, .ptr 5 0), (8, .ptr 6 0), (9, .d (I v)), (11, .ptr 8 0), (24, .d (.sl 4 (List.map e92 bT))), (25, .d (I (bT.length : Int))), (26, .d (I v))], [(8, .var 80 [.d (I r0.weight), .d (I r0.along), .d (I r0.high)]), (6, .var 123 [.d (.fn 103)]), (5, .var 34 [.d (I Top), .d (I Bottom)]), (3, .var 34 [.d (I 0), .d (I 0)]), (2, .var 94 [.d (I c.weight), .d (I c.lean)]), (1, .var 83 (bkV bB bT bL (.map 0))), (0, .mp (List.map m94_34 m0))], 9, Fr.emp, [], 1⟩ (by kernel_rfl) ?_
   refine RW.nil ?_
   refine hQ_13 _ ?_
   obtain ⟨Top1, hx_15, h⟩ := bsome h
   refine AW.jnSK (fun (Top1 : Int) => ⟨[(2, .ptr 1 0), (3, .ptr 2 0), (4, .ptr 3 0), (7, .ptr 5 0), (8, .ptr 6 0), (9, .d (I v)), (12, .ptr 9 0), (24, .d (.sl 4 (List.map e92 bT))), (25, .d (I (bT.length : Int))), (26, .d (I v))], [(9, .var 34 [.d (I Top1), .d (I r0.weight)]), (6, .var 123 [.d (.fn 103)]), (5, .var 34 [.d (I Top), .d (I Bottom)]), (3, .var 34 [.d (I 0), .d (I 0)]), (2, .var 94 [.d (I c.weight), .d (I c.lean)]), (1, .var 83 (bkV bB bT bL (.map 0))), (0, .mp (List.map m94_34 m0))], 10, Fr.emp, [], 1⟩) (c := Top1) (fun K_15 hK_15 => ?_) ?_
   ·have h := hx_15
    refine AW.drw fokW ?_
    refine RunC.auX 3 ⟨[(2, .ptr 1 0), (3, .ptr 2 0), (4, .ptr 3 0), (7, .ptr 5 0), (8, .ptr 6 0), (9, .d (I v)), (11, .ptr 8 0), (24, .d (.sl 4 (List.map e92 bT))), (25, .d (I (bT.length : Int))), (26, .d (I v)), (37, .d (I bB.Kind))], [(8, .var 80 [.d (I r0.weight), .d (I r0.along), .d (I r0.high)]), (6, .var 123 [.d (.fn 103)]), (5, .var 34 [.d (I Top), .d (I Bottom)]), (3, .var 34 [.d (I 0), .d (I 0)]), (2, .var 94 [.d (I c.weight), .d (I c.lean)]), (1, .var 83 (bkV bB bT bL (.map 0))), (0, .mp (List.map m94_34 m0))], 9, Fr.emp, [], 1⟩ (by kernel_rfl) ?_
    obtain ⟨j, hv_17, h⟩ := bsome h
    rcases j with _ | _ | j
    ·refine r_iaF trivial rfl rfl (ixN_ok hv_17).1 (ixN_ok hv_17).2.1 ?_
     refine r_loadF trivial rfl (u := .fn 121) (by rw [(ixN_ok hv_17).2.2]; rfl) ?_
     refine RunC.auX 2 ⟨[(2, .ptr 1 0), (3, .ptr 2 0), (4, .ptr 3 0), (7, .ptr 5 0), (8, .ptr 6 0), (9, .d (I v)), (11, .ptr 8 0), (24, .d (.sl 4 (List.map e92 bT))), (25, .d (I (bT.length : Int))), (26, .d (I v)), (39, .d (.fn 121)), (40, .agg [.d (I bB.Kind), .d (I bB.Front), .d (I bB.Back), .d (I bB.Radius), .d (.sl 4 (List.map e70 bB.Parts)), .d (I bB.Along), .d (I bB.High), .d (I bB.Lean_), .d (I bB.Limit), .d (.sl 3 (List.map e65 bB.Trials)), .d (.sl 4 (List.map e92 bT)), .d (I bL.weight), .d (I bL.along), .d (I bL.high), .map 0]), (41, .agg [.d (I r0.weight), .d (I r0.along), .d (I r0.high)])], [(8, .var 80 [.d (I r0.weight), .d (I r0.along), .d (I r0.high)]), (6, .var 123 [.d (.fn 103)]), (5, .var 34 [.d (I Top), .d (I Bottom)]), (3, .var 34 [.d (I 0), .d (I 0)]), (2, .var 94 [.d (I c.weight), .d (I c.lean)]), (1, .var 83 (bkV bB bT bL (.map 0))), (0, .mp (List.map m94_34 m0))], 9, Fr.emp, [], 1⟩ (by kernel_rfl) ?_
     obtain ⟨r0_1, hx_18, h⟩ := bsome h
     refine r_callvZ (zr := []) trivial rfl (.fn _) (by kernel_rfl) rfl (k121 bB bT bL r0 _ hx_18) trivial ⟨(Frz.agg_of ⟨.refl _, .refl _, .refl _, .refl _, .refl _, .refl _, .refl _, .refl _, .refl _, .refl _, .refl _, .refl _, .refl _, .refl _, (.opq rfl (by intro _ h; cases h)), trivial⟩), .refl _, trivial⟩ rfl rfl rfl rfl ?_
     refine RunC.auX 5 ⟨[(2, .ptr 1 0), (3, .ptr 2 0), (4, .ptr 3 0), (7, .ptr 5 0), (8, .ptr 6 0), (9, .d (I v)), (12, .ptr 9 0), (24, .d (.sl 4 (List.map e92 bT))), (25, .d (I (bT.length : Int))), (26, .d (I v))], [(9, .var 34 [.d (I r0_1), .d (I r0.weight)]), (8, .var 80 [.d (I r0.weight), .d (I r0.along), .d (I r0.high)]), (6, .var 123 [.d (.fn 103)]), (5, .var 34 [.d (I Top), .d (I Bottom)]), (3, .var 34 [.d (I 0), .d (I 0)]), (2, .var 94 [.d (I c.weight), .d (I c.lean)]), (1, .var 83 (bkV bB bT bL (.map 0))), (0, .mp (List.map m94_34 m0))], 10, Fr.emp, [], 1⟩ (by kernel_rfl) ?_
     refine RunC.fin ⟨[(2, .ptr 1 0), (3, .ptr 2 0), (4, .ptr 3 0), (7, .ptr 5 0), (8, .ptr 6 0), (9, .d (I v)), (12, .ptr 9 0), (24, .d (.sl 4 (List.map e92 bT))), (25, .d (I (bT.length : Int))), (26, .d (I v))], [(9, .var 34 [.d (I r0_1), .d (I r0.weight)]), (6, .var 123 [.d (.fn 103)]), (5, .var 34 [.d (I Top), .d (I Bottom)]), (3, .var 34 [.d (I 0), .d (I 0)]), (2, .var 94 [.d (I c.weight), .d (I c.lean)]), (1, .var 83 (bkV bB bT bL (.map 0))), (0, .mp (List.map m94_34 m0))], 10, Fr.emp, [], 1⟩ (by kernel_rfl) (by kernel_rfl) ?_
     obtain rfl := Option.some.inj h
     exact hK_15 _ (Can.kp (by kernel_rfl))
    ·refine r_iaF trivial rfl rfl (ixN_ok hv_17).1 (ixN_ok hv_17).2.1 ?_
     refine r_loadF trivial rfl (u := .fn 122) (by rw [(ixN_ok hv_17).2.2]; rfl) ?_
     refine RunC.auX 2 ⟨[(2, .ptr 1 0), (3, .ptr 2 0), (4, .ptr 3 0), (7, .ptr 5 0), (8, .ptr 6 0), (9, .d (I v)), (11, .ptr 8 0), (24, .d (.sl 4 (List.map e92 bT))), (25, .d (I (bT.length : Int))), (26, .d (I v)), (39, .d (.fn 122)), (40, .agg [.d (I bB.Kind), .d (I bB.Front), .d (I bB.Back), .d (I bB.Radius), .d (.sl 4 (List.map e70 bB.Parts)), .d (I bB.Along), .d (I bB.High), .d (I bB.Lean_), .d (I bB.Limit), .d (.sl 3 (List.map e65 bB.Trials)), .d (.sl 4 (List.map e92 bT)), .d (I bL.weight), .d (I bL.along), .d (I bL.high), .map 0]), (41, .agg [.d (I r0.weight), .d (I r0.along), .d (I r0.high)])], [(8, .var 80 [.d (I r0.weight), .d (I r0.along), .d (I r0.high)]), (6, .var 123 [.d (.fn 103)]), (5, .var 34 [.d (I Top), .d (I Bottom)]), (3, .var 34 [.d (I 0), .d (I 0)]), (2, .var 94 [.d (I c.weight), .d (I c.lean)]), (1, .var 83 (bkV bB bT bL (.map 0))), (0, .mp (List.map m94_34 m0))], 9, Fr.emp, [], 1⟩ (by kernel_rfl) ?_
     obtain ⟨r0_1_1, hx_19, h⟩ := bsome h
     refine r_callvZ (zr := []) trivial rfl (.fn _) (by kernel_rfl) rfl (k122 bB bT bL r0 _ hx_19) trivial ⟨(Frz.agg_of ⟨.refl _, .refl _, .refl _, .refl _, .refl _, .refl _, .refl _, .refl _, .refl _, .refl _, .refl _, .refl _, .refl _, .refl _, (.opq rfl (by intro _ h; cases h)), trivial⟩), .refl _, trivial⟩ rfl rfl rfl rfl ?_
     refine RunC.auX 5 ⟨[(2, .ptr 1 0), (3, .ptr 2 0), (4, .ptr 3 0), (7, .ptr 5 0), (8, .ptr 6 0), (9, .d (I v)), (12, .ptr 9 0), (24, .d (.sl 4 (List.map e92 bT))), (25, .d (I (bT.length : Int))), (26, .d (I v))], [(9, .var 34 [.d (I r0_1_1), .d (I r0.weight)]), (8, .var 80 [.d (I r0.weight), .d (I r0.along), .d (I r0.high)]), (6, .var 123 [.d (.fn 103)]), (5, .var 34 [.d (I Top), .d (I Bottom)]), (3, .var 34 [.d (I 0), .d (I 0)]), (2, .var 94 [.d (I c.weight), .d (I c.lean)]), (1, .var 83 (bkV bB bT bL (.map 0))), (0, .mp (List.map m94_34 m0))], 10, Fr.emp, [], 1⟩ (by kernel_rfl) ?_
     refine RunC.fin ⟨[(2, .ptr 1 0), (3, .ptr 2 0), (4, .ptr 3 0), (7, .ptr 5 0), (8, .ptr 6 0), (9, .d (I v)), (12, .ptr 9 0), (24, .d (.sl 4 (List.map e92 bT))), (25, .d (I (bT.length : Int))), (26, .d (I v))], [(9, .var 34 [.d (I r0_1_1), .d (I r0.weight)]), (6, .var 123 [.d (.fn 103)]), (5, .var 34 [.d (I Top), .d (I Bottom)]), (3, .var 34 [.d (I 0), .d (I 0)]), (2, .var 94 [.d (I c.weight), .d (I c.lean)]), (1, .var 83 (bkV bB bT bL (.map 0))), (0, .mp (List.map m94_34 m0))], 10, Fr.emp, [], 1⟩ (by kernel_rfl) (by kernel_rfl) ?_
     obtain rfl := Option.some.inj h
     exact hK_15 _ (Can.kp (by kernel_rfl))
    ·cases h
   ·refine AW.srwK (fun Q_20 hQ_20 => ?_)
    refine RW.au fokW 3 [] ⟨[(2, .ptr 1 0), (3, .ptr 2 0), (4, .ptr 3 0), (7, .ptr 5 0), (8, .ptr 6 0), (12, .ptr 9 0), (24, .d (.sl 4 (List.map e92 bT))), (25, .d (I (bT.length : Int))), (26, .d (I v)), (48, .d (.bool (decide (v = 0))))], [(9, .var 34 [.d (I Top1), .d (I r0.weight)]), (6, .var 123 [.d (.fn 103)]), (5, .var 34 [.d (I Top), .d (I Bottom)]), (3, .var 34 [.d (I 0), .d (I 0)]), (2, .var 94 [.d (I c.weight), .d (I c.lean)]), (1, .var 83 (bkV bB bT bL (.map 0))), (0, .mp (List.map m94_34 m0))], 10, Fr.emp, [], 1⟩ (by kernel_rfl) ?_
    obtain ⟨v1, hx_21, h⟩ := bsome h
    refine RW.cut fokW 6 (⟨[(2, .ptr 1 0), (3, .ptr 2 0), (4, .ptr 3 0), (7, .ptr 5 0), (8, .ptr 6 0), (12, .ptr 9 0), (24, .d (.sl 4 (List.map e92 bT))), (25, .d (I (bT.length : Int))), (26, .d (I v)), (54, .d (.bool v1))], [(9, .var 34 [.d (I Top1), .d (I r0.weight)]), (6, .var 123 [.d (.fn 103)]), (5, .var 34 [.d (I Top), .d (I Bottom)]), (3, .var 34 [.d (I 0), .d (I 0)]), (2, .var 94 [.d (I c.weight), .d (I c.lean)]), (1, .var 83 (bkV bB bT bL (.map 0))), (0, .mp (List.map m94_34 m0))], 10, Fr.emp, [], 1⟩) ?_ ?_
    ·refine r_split 48 rfl (fun hb_23 => ?_) (fun hb_23 => ?_)
     ·have h := ifT hb_23 hx_21
      refine RunC.auX 6 ⟨[(2, .ptr 1 0), (3, .ptr 2 0), (4, .ptr 3 0), (7, .ptr 5 0), (8, .ptr 6 0), (12, .ptr 9 0), (24, .d (.sl 4 (List.map e92 bT))), (25, .d (I (bT.length : Int))), (26, .d (I v)), (49, .undef), (50, .undef), (51, .undef), (52, .undef), (53, .undef), (54, .d (.bool true))], [(9, .var 34 [.d (I Top1), .d (I r0.weight)]), (6, .var 123 [.d (.fn 103)]), (5, .var 34 [.d (I Top), .d (I Bottom)]), (3, .var 34 [.d (I 0), .d (I 0)]), (2, .var 94 [.d (I c.weight), .d (I c.lean)]), (1, .var 83 (bkV bB bT bL (.map 0))), (0, .mp (List.map m94_34 m0))], 10, Fr.emp, [], 1⟩ (by kernel_rfl) ?_
      obtain rfl := Option.some.inj h
      refine RunC.finJ (Can.kp (by kernel_rfl))
     ·have h := ifF hb_23 hx_21
      refine RunC.auX 4 ⟨[(2, .ptr 1 0), (3, .ptr 2 0), (4, .ptr 3 0), (7, .ptr 5 0), (8, .ptr 6 0), (12, .ptr 9 0), (24, .d (.sl 4 (List.map e92 bT))), (25, .d (I (bT.length : Int))), (26, .d (I v)), (48, .d (.bool false)), (49, .ptr 6 0), (50, .d (.fn 103)), (51, .agg [.d (I Top1), .d (I r0.weight)]), (52, .agg [.d (I Top), .d (I Bottom)])], [(9, .var 34 [.d (I Top1), .d (I r0.weight)]), (6, .var 123 [.d (.fn 103)]), (5, .var 34 [.d (I Top), .d (I Bottom)]), (3, .var 34 [.d (I 0), .d (I 0)]), (2, .var 94 [.d (I c.weight), .d (I c.lean)]), (1, .var 83 (bkV bB bT bL (.map 0))), (0, .mp (List.map m94_34 m0))], 10, Fr.emp, [], 1⟩ (by kernel_rfl) ?_
      obtain ⟨r0_2, hx_22, h⟩ := bsome h
      refine r_callvZ (zr := []) rfl rfl (.fn _) (by kernel_rfl) rfl (k103 (StandRatio.mk Top1 r0.weight) (StandRatio.mk Top Bottom) _ hx_22) trivial ⟨.refl _, .refl _, trivial⟩ rfl rfl rfl rfl ?_
      refine RunC.auX 1 ⟨[(2, .ptr 1 0), (3, .ptr 2 0), (4, .ptr 3 0), (7, .ptr 5 0), (8, .ptr 6 0), (12, .ptr 9 0), (24, .d (.sl 4 (List.map e92 bT))), (25, .d (I (bT.length : Int))), (26, .d (I v)), (49, .ptr 6 0), (50, .d (.fn 103)), (51, .agg [.d (I Top1), .d (I r0.weight)]), (52, .agg [.d (I Top), .d (I Bottom)]), (53, .d (.bool r0_2)), (54, .d (.bool r0_2))], [(9, .var 34 [.d (I Top1), .d (I r0.weight)]), (6, .var 123 [.d (.fn 103)]), (5, .var 34 [.d (I Top), .d (I Bottom)]), (3, .var 34 [.d (I 0), .d (I 0)]), (2, .var 94 [.d (I c.weight), .d (I c.lean)]), (1, .var 83 (bkV bB bT bL (.map 0))), (0, .mp (List.map m94_34 m0))], 10, Fr.emp, [], 1⟩ (by kernel_rfl) ?_
      obtain rfl := Option.some.inj h
      refine RunC.finJ (Can.kp (by kernel_rfl))
    ·refine RW.nil ?_
     refine hQ_20 _ ?_
     refine AW.cond rfl (fun hb_24 => ?_) (fun hb_24 => ?_)
     ·have h := ifT hb_24 h
      refine AW.ra fokW [] ⟨[(2, .ptr 1 0), (3, .ptr 2 0), (4, .ptr 3 0), (7, .ptr 5 0), (8, .ptr 6 0), (24, .d (.sl 4 (List.map e92 bT))), (25, .d (I (bT.length : Int))), (26, .d (I v))], [(5, .var 34 [.d (I Top1), .d (I r0.weight)]), (6, .var 123 [.d (.fn 103)]), (3, .var 34 [.d (I 0), .d (I 0)]), (2, .var 94 [.d (I c.weight), .d (I c.lean)]), (1, .var 83 (bkV bB bT bL (.map 0))), (0, .mp (List.map m94_34 m0))], 10, Fr.emp, [], 1⟩ (by kernel_rfl) ?_
      refine hK_11 _ ?_
      refine AW.ra fokW [] ⟨[(2, .ptr 1 0), (3, .ptr 2 0), (4, .ptr 3 0), (7, .ptr 5 0), (8, .ptr 6 0), (24, .d (.sl 4 (List.map e92 bT))), (25, .d (I (bT.length : Int))), (26, .d (I (wr (v + 1))))], [(5, .var 34 [.d (I Top1), .d (I r0.weight)]), (6, .var 123 [.d (.fn 103)]), (3, .var 34 [.d (I 0), .d (I 0)]), (2, .var 94 [.d (I c.weight), .d (I c.lean)]), (1, .var 83 (bkV bB bT bL (.map 0))), (0, .mp (List.map m94_34 m0))], 10, Fr.emp, [], 1⟩ (by kernel_rfl) ?_
      obtain rfl := Option.some.inj h
      have ew : wr (v + 1) = v + 1 := inext (N := (bT.length : Int)) (by omega) (by omega) (by omega)
      rw [ew]
      exact hK_8 _ (Can.kp (by kernel_rfl))
     ·have h := ifF hb_24 h
      refine AW.skip ?_
      refine hK_11 _ ?_
      refine AW.ra fokW [] ⟨[(2, .ptr 1 0), (3, .ptr 2 0), (4, .ptr 3 0), (7, .ptr 5 0), (8, .ptr 6 0), (24, .d (.sl 4 (List.map e92 bT))), (25, .d (I (bT.length : Int))), (26, .d (I (wr (v + 1))))], [(6, .var 123 [.d (.fn 103)]), (5, .var 34 [.d (I Top), .d (I Bottom)]), (3, .var 34 [.d (I 0), .d (I 0)]), (2, .var 94 [.d (I c.weight), .d (I c.lean)]), (1, .var 83 (bkV bB bT bL (.map 0))), (0, .mp (List.map m94_34 m0))], 10, Fr.emp, [], 1⟩ (by kernel_rfl) ?_
      obtain rfl := Option.some.inj h
      have ew : wr (v + 1) = v + 1 := inext (N := (bT.length : Int)) (by omega) (by omega) (by omega)
      rw [ew]
      exact hK_8 _ (Can.kp (by kernel_rfl))
  ·obtain ⟨Top, Bottom⟩ := s_8
   subst hout
   refine AW.sa fokW [] ⟨[(2, .ptr 1 0), (3, .ptr 2 0), (4, .ptr 3 0), (7, .ptr 5 0), (8, .ptr 6 0), (24, .d (.sl 4 (List.map e92 bT))), (25, .d (I (bT.length : Int))), (26, .d (I v)), (27, .d (.bool (decide (v < (bT.length : Int)))))], [(6, .var 123 [.d (.fn 103)]), (5, .var 34 [.d (I Top), .d (I Bottom)]), (3, .var 34 [.d (I 0), .d (I 0)]), (2, .var 94 [.d (I c.weight), .d (I c.lean)]), (1, .var 83 (bkV bB bT bL (.map 0))), (0, .mp (List.map m94_34 m0))], 7, Fr.emp, [], 1⟩ (by kernel_rfl) ?_
   refine AW.seqK (fun K_25 hK_25 => ?_)
   refine AW.cond rfl (fun hb_26 => False.elim (by have := of_decide_eq_true hb_26; omega)) (fun hb_26 => ?_)
   refine AW.exit ?_
   refine hK_6 _ ?_
   refine AW.sdrwK fokW (fun Q_27 hQ_27 => ?_)
   refine RunC.auX 4 ⟨[(2, .ptr 1 0), (3, .ptr 2 0), (4, .ptr 3 0), (58, .map 0), (59, .agg [.d (I c.weight), .d (I c.lean)]), (60, .agg [.d (I Top), .d (I Bottom)])], [(6, .var 123 [.d (.fn 103)]), (5, .var 34 [.d (I Top), .d (I Bottom)]), (3, .var 34 [.d (I 0), .d (I 0)]), (2, .var 94 [.d (I c.weight), .d (I c.lean)]), (1, .var 83 (bkV bB bT bL (.map 0))), (0, .mp (List.map m94_34 m0))], 7, Fr.emp, [], 1⟩ (by kernel_rfl) ?_
   obtain ⟨r0_3, hx_28, h⟩ := bsome h
   refine r_call trivial rfl (k97 (StandRatio.mk Top Bottom) _ hx_28) rfl rfl ?_
   obtain ⟨m, hv_29, h⟩ := bsome h
   refine r_mput q94 e94 (fun x => DV.a (e34 x)) trivial rfl rfl rfl rfl ft94 q94_ok (fun _ => rfl) rfl hv_29 ?_
   refine RunC.fin ⟨[(2, .ptr 1 0), (3, .ptr 2 0), (4, .ptr 3 0)], [(0, .mp (List.map m94_34 m)), (3, .var 34 [.d (I 0), .d (I 0)]), (2, .var 94 [.d (I c.weight), .d (I c.lean)]), (1, .var 83 (bkV bB bT bL (.map 0)))], 7, Fr.emp, [], 1⟩ (by kernel_rfl) (by kernel_rfl) ?_
   refine hQ_27 _ ?_
   refine AW.srwK (fun Q_30 hQ_30 => ?_)
   refine RW.au fokW 3 [] ⟨[(4, .ptr 3 0), (63, .map 0), (64, .agg [.d (I c.weight), .d (I c.lean)])], [(0, .mp (List.map m94_34 m)), (3, .var 34 [.d (I 0), .d (I 0)])], 7, Fr.emp, [], 1⟩ (by kernel_rfl) ?_
   refine RW.one fokW (r_lookA q94 e94 e34 m c (StandRatio.mk 0 0) trivial rfl rfl rfl ft94 q94_ok (fun _ => rfl) rfl (r_end ?_))
   refine RW.au fokW 1 [] ⟨[(4, .ptr 3 0)], [(3, .var 34 [.d (I (((mget q94 m c).getD (StandRatio.mk 0 0)).Top)), .d (I (((mget q94 m c).getD (StandRatio.mk 0 0)).Bottom))]), (0, .mp (List.map m94_34 m))], 7, Fr.emp, [], 1⟩ (by kernel_rfl) ?_
   refine RW.nil ?_
   refine hQ_30 _ ?_
   obtain rfl := Option.some.inj h
   exact AW.ret (hR_0 _ (retX (.cons (.agg rfl rfl (Nat.le_of_ble_eq_true rfl)) .nil) (.refl _) rfl (by kernel_rfl) (by kernel_rfl)))
def g22 (x : StandBook) (weight : Int) (lean : Int) : Option (StandRatio × Int) := ((g68 x weight).bind fun r0_1 => bif r0_1 then ((g69 x lean).bind fun r0_1_1 => (g67 x r0_1_1).bind fun r_8 => match r_8 with | .next (r0B5, r0T5, r0L5, r1_2) => (must (decide (r1_2 ≠ 0))).bind fun _ => some (.next (r1_2, r0B5.Kind, r0B5.Front, r0B5.Back, r0B5.Radius, r0B5.Parts, r0B5.Along, r0B5.High, r0B5.Lean_, r0B5.Limit, r0B5.Trials, r0T5, r0L5.weight, r0L5.along, r0L5.high)) | .brk (r0B6, r0T6, r0L6, r1_3, m4_1) => some (.brk (r1_3, r0B6.Kind, r0B6.Front, r0B6.Back, r0B6.Radius, r0B6.Parts, r0B6.Along, r0B6.High, r0B6.Lean_, r0B6.Limit, r0B6.Trials, r0T6, r0L6.weight, r0L6.along, r0L6.high, m4_1))) else ((g67 x false).bind fun r_11 => match r_11 with | .next (r0B5_1, r0T5_1, r0L5_1, r1_2_1) => (must (decide (r1_2_1 ≠ 0))).bind fun _ => some (.next (r1_2_1, r0B5_1.Kind, r0B5_1.Front, r0B5_1.Back, r0B5_1.Radius, r0B5_1.Parts, r0B5_1.Along, r0B5_1.High, r0B5_1.Lean_, r0B5_1.Limit, r0B5_1.Trials, r0T5_1, r0L5_1.weight, r0L5_1.along, r0L5_1.high)) | .brk (r0B6_1, r0T6_1, r0L6_1, r1_3_1, m4_1_1) => some (.brk (r1_3_1, r0B6_1.Kind, r0B6_1.Front, r0B6_1.Back, r0B6_1.Radius, r0B6_1.Parts, r0B6_1.Along, r0B6_1.High, r0B6_1.Lean_, r0B6_1.Limit, r0B6_1.Trials, r0T6_1, r0L6_1.weight, r0L6_1.along, r0L6_1.high, m4_1_1))) : Option (Ctl (Int × Int × Int × Int × Int × (List StandPart) × Int × Int × Int × Int × (List StandTrial) × (List (Nat → Int)) × Int × Int × Int) (Int × Int × Int × Int × Int × (List StandPart) × Int × Int × Int × Int × (List StandTrial) × (List (Nat → Int)) × Int × Int × Int × (List (Stand_child × StandRatio))))).bind fun j_1 => match j_1 with | .next (e, Kind, Front, Back, Radius, Parts, Along, High, Lean_, Limit, Trials, truths, weight1, along, high) => (must (decide (e ≠ 0))).bind fun _ => some ((StandRatio.mk 0 0), e) | .brk (e1, Kind1, Front1, Back1, Radius1, Parts1, Along1, High1, Lean_1, Limit1, Trials1, truths1, weight2, along1, high1, m) => bif (decide (e1 ≠ 0)) then (some ((StandRatio.mk 0 0), e1)) else ((g73a (StandBook.mk Kind1 Front1 Back1 Radius1 Parts1 Along1 High1 Lean_1 Limit1 Trials1) truths1 (Stand_load.mk weight2 along1 high1) (Stand_child.mk weight lean) m).bind fun (r0_5, m0_2) => some (r0_5, 0))
theorem k22 (x : StandBook) (weight : Int) (lean : Int) (r : StandRatio × Int) (h : g22 x weight lean = some r) : SCall Tryd.prog Gs 22 [.agg (cv25 x), .d (I weight), .d (I lean)] [] 0 Fr.emp (match r with | (r0_3, r1_4) => .tup [.agg [.d (I r0_3.Top), .d (I r0_3.Bottom)], .d (I r1_4)]) [] 0 Fr.emp := by
 unfold g22 at h
 refine SCall.mkK Tryd.func22 c22 rfl rfl (by kernel_rfl) (fun Q_0 hR_0 hN_0 => ?_)
 refine AW.sa fokW [] ⟨[(1, .d (I weight)), (2, .d (I lean)), (3, .ptr 0 0), (6, .ptr 1 0)], [(1, .var 34 [.d (I 0), .d (I 0)]), (0, .var 25 (cv25 x))], 2, Fr.emp, [], 0⟩ (by kernel_rfl) ?_
 obtain ⟨c_1, hx_1, h⟩ := bsome h
 refine AW.jnSK (fun (j : Ctl (Int × Int × Int × Int × Int × (List StandPart) × Int × Int × Int × Int × (List StandTrial) × (List (Nat → Int)) × Int × Int × Int) (Int × Int × Int × Int × Int × (List StandPart) × Int × Int × Int × Int × (List StandTrial) × (List (Nat → Int)) × Int × Int × Int × (List (Stand_child × StandRatio)))) => match j with | .next (e, Kind, Front, Back, Radius, Parts, Along, High, Lean_, Limit, Trials, truths, weight1, along, high) => ⟨[(1, .d (I weight)), (2, .d (I lean)), (6, .ptr 1 0), (8, .ptr 2 0), (9, .d (I e))], [(2, .var 83 [.d (I Kind), .d (I Front), .d (I Back), .d (I Radius), .d (.sl 4 (List.map e70 Parts)), .d (I Along), .d (I High), .d (I Lean_), .d (I Limit), .d (.sl 3 (List.map e65 Trials)), .d (.sl 4 (List.map e92 truths)), .d (I weight1), .d (I along), .d (I high), .d (.nilMap)]), (1, .var 34 [.d (I 0), .d (I 0)])], 3, Fr.emp, [], 0⟩ | .brk (e1, Kind1, Front1, Back1, Radius1, Parts1, Along1, High1, Lean_1, Limit1, Trials1, truths1, weight2, along1, high1, m) => ⟨[(1, .d (I weight)), (2, .d (I lean)), (6, .ptr 1 0), (8, .ptr 7 0), (9, .d (I e1))], [(7, .var 83 [.d (I Kind1), .d (I Front1), .d (I Back1), .d (I Radius1), .d (.sl 4 (List.map e70 Parts1)), .d (I Along1), .d (I High1), .d (I Lean_1), .d (I Limit1), .d (.sl 3 (List.map e65 Trials1)), .d (.sl 4 (List.map e92 truths1)), .d (I weight2), .d (I along1), .d (I high1), .map 6]), (6, .mp (List.map m94_34 m)), (1, .var 34 [.d (I 0), .d (I 0)])], 8, Fr.emp, [], 0⟩) (c := c_1) (fun K_1 hK_1 => ?_) ?_
 ·have h := hx_1
  refine AW.drw fokW ?_
  refine RunC.auX 3 ⟨[(1, .d (I weight)), (2, .d (I lean)), (3, .ptr 0 0), (6, .ptr 1 0), (11, .agg (cv25 x)), (12, .agg (cv25 x)), (13, .d (I weight))], [(1, .var 34 [.d (I 0), .d (I 0)]), (0, .var 25 (cv25 x))], 2, Fr.emp, [], 0⟩ (by kernel_rfl) ?_
  obtain ⟨r0_1, hx_3, h⟩ := bsome h
  refine r_call trivial rfl (k68 x weight _ hx_3) rfl rfl ?_
  refine RunC.auX 1 ⟨[(1, .d (I weight)), (2, .d (I lean)), (3, .ptr 0 0), (6, .ptr 1 0), (11, .agg (cv25 x)), (15, .d (.bool r0_1))], [(1, .var 34 [.d (I 0), .d (I 0)]), (0, .var 25 (cv25 x))], 2, Fr.emp, [], 0⟩ (by kernel_rfl) ?_
  refine r_split 15 rfl (fun hb_4 => ?_) (fun hb_4 => ?_)
  ·have h := ifT hb_4 h
   refine RunC.auX 2 ⟨[(1, .d (I weight)), (2, .d (I lean)), (6, .ptr 1 0), (11, .agg (cv25 x)), (15, .d (.bool true)), (16, .agg (cv25 x)), (17, .d (I lean))], [(1, .var 34 [.d (I 0), .d (I 0)]), (0, .var 25 (cv25 x))], 2, Fr.emp, [], 0⟩ (by kernel_rfl) ?_
   obtain ⟨r0_1_1, hx_5, h⟩ := bsome h
   refine r_call rfl rfl (k69 x lean _ hx_5) rfl rfl ?_
   refine RunC.auX 1 ⟨[(1, .d (I weight)), (2, .d (I lean)), (6, .ptr 1 0), (11, .agg (cv25 x)), (19, .d (.bool r0_1_1))], [(1, .var 34 [.d (I 0), .d (I 0)]), (0, .var 25 (cv25 x))], 2, Fr.emp, [], 0⟩ (by kernel_rfl) ?_
   obtain ⟨r_8, hx_6, h⟩ := bsome h
   rcases r_8 with (⟨r0B5, r0T5, r0L5, r1_2⟩ | (⟨r0B6, r0T6, r0L6, r1_3, m4_1⟩))
   ·refine r_callS (zr := []) [] trivial rfl (k67 x r0_1_1 _ hx_6) trivial rfl rfl ⟨.refl _, .refl _, trivial⟩ rfl rfl rfl ?_
    obtain ⟨_, hv_7, h⟩ := bsome h
    have hf_8 := must_ok hv_7
    refine RunC.auX 6 ⟨[(1, .d (I weight)), (2, .d (I lean)), (6, .ptr 1 0), (8, .ptr 2 0), (9, .d (I r1_2))], [(2, .var 83 (bkV r0B5 r0T5 r0L5 (.d (.nilMap)))), (1, .var 34 [.d (I 0), .d (I 0)]), (0, .var 25 (cv25 x))], 3, Fr.emp, [], 0⟩ (by kernel_rfl) ?_
    refine RunC.fin ⟨[(1, .d (I weight)), (2, .d (I lean)), (6, .ptr 1 0), (8, .ptr 2 0), (9, .d (I r1_2))], [(2, .var 83 (bkV r0B5 r0T5 r0L5 (.d (.nilMap)))), (1, .var 34 [.d (I 0), .d (I 0)])], 3, Fr.emp, [], 0⟩ (by kernel_rfl) (by kernel_rfl) ?_
    obtain rfl := Option.some.inj h
    exact hK_1 _ (Can.kp (by kernel_rfl))
   ·refine r_callS (zr := []) [] trivial rfl (k67 x r0_1_1 _ hx_6) trivial rfl rfl ⟨.refl _, .refl _, trivial⟩ rfl rfl rfl ?_
    refine RunC.auX 6 ⟨[(1, .d (I weight)), (2, .d (I lean)), (6, .ptr 1 0), (8, .ptr 7 0), (9, .d (I r1_3))], [(7, .var 83 (bkV r0B6 r0T6 r0L6 (.map 6))), (6, .mp (List.map m94_34 m4_1)), (1, .var 34 [.d (I 0), .d (I 0)]), (0, .var 25 (cv25 x))], 8, Fr.emp, [], 0⟩ (by kernel_rfl) ?_
    refine RunC.fin ⟨[(1, .d (I weight)), (2, .d (I lean)), (6, .ptr 1 0), (8, .ptr 7 0), (9, .d (I r1_3))], [(7, .var 83 (bkV r0B6 r0T6 r0L6 (.map 6))), (6, .mp (List.map m94_34 m4_1)), (1, .var 34 [.d (I 0), .d (I 0)])], 8, Fr.emp, [], 0⟩ (by kernel_rfl) (by kernel_rfl) ?_
    obtain rfl := Option.some.inj h
    exact hK_1 _ (Can.kp (by kernel_rfl))
  ·have h := ifF hb_4 h
   refine RunC.auX 4 ⟨[(1, .d (I weight)), (2, .d (I lean)), (6, .ptr 1 0), (11, .agg (cv25 x)), (19, .d (.bool false))], [(1, .var 34 [.d (I 0), .d (I 0)]), (0, .var 25 (cv25 x))], 2, Fr.emp, [], 0⟩ (by kernel_rfl) ?_
   obtain ⟨r_11, hx_9, h⟩ := bsome h
   rcases r_11 with (⟨r0B5_1, r0T5_1, r0L5_1, r1_2_1⟩ | (⟨r0B6_1, r0T6_1, r0L6_1, r1_3_1, m4_1_1⟩))
   ·refine r_callS (zr := []) [] trivial rfl (k67 x false _ hx_9) trivial rfl rfl ⟨.refl _, .refl _, trivial⟩ rfl rfl rfl ?_
    obtain ⟨_, hv_10, h⟩ := bsome h
    have hf_11 := must_ok hv_10
    refine RunC.auX 6 ⟨[(1, .d (I weight)), (2, .d (I lean)), (6, .ptr 1 0), (8, .ptr 2 0), (9, .d (I r1_2_1))], [(2, .var 83 (bkV r0B5_1 r0T5_1 r0L5_1 (.d (.nilMap)))), (1, .var 34 [.d (I 0), .d (I 0)]), (0, .var 25 (cv25 x))], 3, Fr.emp, [], 0⟩ (by kernel_rfl) ?_
    refine RunC.fin ⟨[(1, .d (I weight)), (2, .d (I lean)), (6, .ptr 1 0), (8, .ptr 2 0), (9, .d (I r1_2_1))], [(2, .var 83 (bkV r0B5_1 r0T5_1 r0L5_1 (.d (.nilMap)))), (1, .var 34 [.d (I 0), .d (I 0)])], 3, Fr.emp, [], 0⟩ (by kernel_rfl) (by kernel_rfl) ?_
    obtain rfl := Option.some.inj h
    exact hK_1 _ (Can.kp (by kernel_rfl))
   ·refine r_callS (zr := []) [] trivial rfl (k67 x false _ hx_9) trivial rfl rfl ⟨.refl _, .refl _, trivial⟩ rfl rfl rfl ?_
    refine RunC.auX 6 ⟨[(1, .d (I weight)), (2, .d (I lean)), (6, .ptr 1 0), (8, .ptr 7 0), (9, .d (I r1_3_1))], [(7, .var 83 (bkV r0B6_1 r0T6_1 r0L6_1 (.map 6))), (6, .mp (List.map m94_34 m4_1_1)), (1, .var 34 [.d (I 0), .d (I 0)]), (0, .var 25 (cv25 x))], 8, Fr.emp, [], 0⟩ (by kernel_rfl) ?_
    refine RunC.fin ⟨[(1, .d (I weight)), (2, .d (I lean)), (6, .ptr 1 0), (8, .ptr 7 0), (9, .d (I r1_3_1))], [(7, .var 83 (bkV r0B6_1 r0T6_1 r0L6_1 (.map 6))), (6, .mp (List.map m94_34 m4_1_1)), (1, .var 34 [.d (I 0), .d (I 0)])], 8, Fr.emp, [], 0⟩ (by kernel_rfl) (by kernel_rfl) ?_
    obtain rfl := Option.some.inj h
    exact hK_1 _ (Can.kp (by kernel_rfl))
 ·rcases c_1 with (⟨e, Kind, Front, Back, Radius, Parts, Along, High, Lean_, Limit, Trials, truths, weight1, along, high⟩ | ⟨e1, Kind1, Front1, Back1, Radius1, Parts1, Along1, High1, Lean_1, Limit1, Trials1, truths1, weight2, along1, high1, m⟩)
  ·obtain ⟨_, hv_12, h⟩ := bsome h
   have hf_13 := must_ok hv_12
   refine AW.seqK (fun K_14 hK_14 => ?_)
   refine AW.sa fokW [] ⟨[(1, .d (I weight)), (2, .d (I lean)), (6, .ptr 1 0), (8, .ptr 2 0), (9, .d (I e)), (24, .d (.bool (decide (e ≠ 0))))], [(2, .var 83 [.d (I Kind), .d (I Front), .d (I Back), .d (I Radius), .d (.sl 4 (List.map e70 Parts)), .d (I Along), .d (I High), .d (I Lean_), .d (I Limit), .d (.sl 3 (List.map e65 Trials)), .d (.sl 4 (List.map e92 truths)), .d (I weight1), .d (I along), .d (I high), .d (.nilMap)]), (1, .var 34 [.d (I 0), .d (I 0)])], 3, Fr.emp, [], 0⟩ (by kernel_rfl) ?_
   refine AW.cond rfl (fun hb_15 => ?_) (fun hb_15 => False.elim (by rw [hf_13] at hb_15; cases hb_15))
   refine AW.sa fokW [] ⟨[(6, .ptr 1 0), (7, .d (I e))], [(1, .var 34 [.d (I 0), .d (I 0)])], 3, Fr.emp, [], 0⟩ (by kernel_rfl) ?_
   obtain rfl := Option.some.inj h
   exact AW.ret (hR_0 _ (retX (.cons (.agg rfl rfl (Nat.le_of_ble_eq_true rfl)) (.cons (.tmp rfl) .nil)) (.refl _) rfl (by kernel_rfl) (by kernel_rfl)))
  ·refine AW.seqK (fun K_16 hK_16 => ?_)
   refine AW.sa fokW [] ⟨[(1, .d (I weight)), (2, .d (I lean)), (6, .ptr 1 0), (8, .ptr 7 0), (9, .d (I e1)), (24, .d (.bool (decide (e1 ≠ 0))))], [(7, .var 83 [.d (I Kind1), .d (I Front1), .d (I Back1), .d (I Radius1), .d (.sl 4 (List.map e70 Parts1)), .d (I Along1), .d (I High1), .d (I Lean_1), .d (I Limit1), .d (.sl 3 (List.map e65 Trials1)), .d (.sl 4 (List.map e92 truths1)), .d (I weight2), .d (I along1), .d (I high1), .map 6]), (6, .mp (List.map m94_34 m)), (1, .var 34 [.d (I 0), .d (I 0)])], 8, Fr.emp, [], 0⟩ (by kernel_rfl) ?_
   refine AW.cond rfl (fun hb_17 => ?_) (fun hb_17 => ?_)
   ·have h := ifT hb_17 h
    refine AW.sa fokW [] ⟨[(6, .ptr 1 0), (7, .d (I e1))], [(1, .var 34 [.d (I 0), .d (I 0)])], 8, Fr.emp, [], 0⟩ (by kernel_rfl) ?_
    obtain rfl := Option.some.inj h
    exact AW.ret (hR_0 _ (retX (.cons (.agg rfl rfl (Nat.le_of_ble_eq_true rfl)) (.cons (.tmp rfl) .nil)) (.refl _) rfl (by kernel_rfl) (by kernel_rfl)))
   ·have h := ifF hb_17 h
    refine AW.skip ?_
    refine hK_16 _ ?_
    refine AW.srwK (fun Q_18 hQ_18 => ?_)
    refine RW.au fokW 4 [] ⟨[(6, .ptr 1 0), (27, .agg [.d (I Kind1), .d (I Front1), .d (I Back1), .d (I Radius1), .d (.sl 4 (List.map e70 Parts1)), .d (I Along1), .d (I High1), .d (I Lean_1), .d (I Limit1), .d (.sl 3 (List.map e65 Trials1)), .d (.sl 4 (List.map e92 truths1)), .d (I weight2), .d (I along1), .d (I high1), .map 6]), (30, .agg [.d (I weight), .d (I lean)])], [(6, .mp (List.map m94_34 m)), (1, .var 34 [.d (I 0), .d (I 0)])], 8, Fr.emp, [], 0⟩ (by kernel_rfl) ?_
    obtain ⟨⟨r0_5, m0_2⟩, hx_19, h⟩ := bsome h
    refine RW.one fokW (r_callS (zr := []) [6] trivial rfl (k73a (StandBook.mk Kind1 Front1 Back1 Radius1 Parts1 Along1 High1 Lean_1 Limit1 Trials1) truths1 (Stand_load.mk weight2 along1 high1) (Stand_child.mk weight lean) m _ hx_19) ⟨rfl, trivial⟩ rfl rfl ⟨.refl _, .refl _, trivial⟩ rfl rfl rfl (r_end ?_))
    refine RW.au fokW 2 [] ⟨[(6, .ptr 1 0), (7, .d (I 0))], [(1, .var 34 [.d (I r0_5.Top), .d (I r0_5.Bottom)])], 8, Fr.emp, [], 0⟩ (by kernel_rfl) ?_
    refine RW.nil ?_
    refine hQ_18 _ ?_
    obtain rfl := Option.some.inj h
    exact AW.ret (hR_0 _ (retX (.cons (.agg rfl rfl (Nat.le_of_ble_eq_true rfl)) (.cons (.tmp rfl) .nil)) (.refl _) rfl (by kernel_rfl) (by kernel_rfl)))
def g46 (low : Int) (high : Int) : Option Span := some (Span.mk low high)
theorem k46 (low : Int) (high : Int) (r : Span) (h : g46 low high = some r) : SCall Tryd.prog Gs 46 [.d (I low), .d (I high)] [] 0 Fr.emp (.agg [.d (I r.Low), .d (I r.High)]) [] 0 Fr.emp := by
 unfold g46 at h
 refine SCall.mkK Tryd.func46 c46 rfl rfl (by kernel_rfl) (fun Q_0 hR_0 hN_0 => ?_)
 refine AW.sa fokW [] ⟨[(0, .d (I low)), (1, .d (I high)), (4, .ptr 0 0)], [(0, .var 42 [.d (I 0), .d (I 0)])], 1, Fr.emp, [], 0⟩ (by kernel_rfl) ?_
 refine AW.sa fokW [] ⟨[(4, .ptr 0 0)], [(0, .var 42 [.d (I low), .d (I high)])], 1, Fr.emp, [], 0⟩ (by kernel_rfl) ?_
 obtain rfl := Option.some.inj h
 exact AW.ret (hR_0 _ (retX (.cons (.agg rfl rfl (Nat.le_of_ble_eq_true rfl)) .nil) (.refl _) rfl (by kernel_rfl) (by kernel_rfl)))
def g57 (l : (List StandTrial)) : Option StandBook := (g46 20 22).bind fun r0 => (g46 4 5).bind fun r0_1 => some (StandBook.mk 0 10 4 0 [(StandPart.mk r0 0 30), (StandPart.mk r0_1 15 40)] (-4) 36 8 30 l)
theorem k57 (l : (List StandTrial)) (r : StandBook) (h : g57 l = some r) : SCall Tryd.prog Gs 57 [.d (.sl 3 (List.map e65 l))] [] 0 Fr.emp (.agg (cv25 r)) [] 0 Fr.emp := by
 unfold g57 at h
 refine SCall.mkK Tryd.func57 c57 rfl rfl (by kernel_rfl) (fun Q_0 hR_0 hN_0 => ?_)
 refine AW.sa fokW [] ⟨[(0, .d (.sl 3 (List.map e65 l))), (2, .ptr 0 0)], [(0, .var 25 [.d (I 0), .d (I 0), .d (I 0), .d (I 0), .d (.nilSl), .d (I 0), .d (I 0), .d (I 0), .d (I 0), .d (.nilSl)])], 1, Fr.emp, [], 0⟩ (by kernel_rfl) ?_
 refine AW.srwK (fun Q_1 hQ_1 => ?_)
 obtain ⟨r0, hx_2, h⟩ := bsome h
 refine RW.one fokW (r_call trivial rfl (k46 20 22 _ hx_2) rfl rfl (r_end ?_))
 refine RW.au fokW 1 [] ⟨[(0, .d (.sl 3 (List.map e65 l))), (2, .ptr 0 0), (4, .agg [.d (I r0.Low), .d (I r0.High), .d (I 0), .d (I 30)])], [(0, .var 25 [.d (I 0), .d (I 0), .d (I 0), .d (I 0), .d (.nilSl), .d (I 0), .d (I 0), .d (I 0), .d (I 0), .d (.nilSl)])], 1, Fr.emp, [], 0⟩ (by kernel_rfl) ?_
 obtain ⟨r0_1, hx_3, h⟩ := bsome h
 refine RW.one fokW (r_call trivial rfl (k46 4 5 _ hx_3) rfl rfl (r_end ?_))
 refine RW.au fokW 5 [] ⟨[(2, .ptr 0 0)], [(0, .var 25 [.d (I 0), .d (I 10), .d (I 4), .d (I 0), .own 1 (List.map e70 [(StandPart.mk r0 0 30), (StandPart.mk r0_1 15 40)]).length, .d (I (-4)), .d (I 36), .d (I 8), .d (I 30), .d (.sl 3 (List.map e65 l))]), (1, .row 70 4 (List.map e70 [(StandPart.mk r0 0 30), (StandPart.mk r0_1 15 40)]))], 2, Fr.emp, [], 0⟩ (by kernel_rfl) ?_
 refine RW.nil ?_
 refine hQ_1 _ ?_
 obtain rfl := Option.some.inj h
 exact AW.ret (hR_0 _ (retX (.cons (.agg rfl rfl (Nat.le_of_ble_eq_true rfl)) .nil) (Frz.agg_of ⟨.refl _, .refl _, .refl _, .refl _, (.own rfl rfl), .refl _, .refl _, .refl _, .refl _, .refl _, trivial⟩) rfl (by kernel_rfl) (by kernel_rfl)))
def g55  : Option StandBook := (g57 ([] : (List StandTrial))).bind fun r0_2 => some r0_2
theorem k55  (r : StandBook) (h : g55 = some r) : SCall Tryd.prog Gs 55 [] [] 0 Fr.emp (.agg (cv25 r)) [] 0 Fr.emp := by
 unfold g55 at h
 refine SCall.mkK Tryd.func55 c55 rfl rfl (by kernel_rfl) (fun Q_0 hR_0 hN_0 => ?_)
 refine AW.sa fokW [] ⟨[(0, .ptr 0 0)], [(0, .var 25 [.d (I 0), .d (I 0), .d (I 0), .d (I 0), .d (.nilSl), .d (I 0), .d (I 0), .d (I 0), .d (I 0), .d (.nilSl)])], 1, Fr.emp, [], 0⟩ (by kernel_rfl) ?_
 refine AW.srwK (fun Q_1 hQ_1 => ?_)
 obtain ⟨r0_2, hx_2, h⟩ := bsome h
 refine RW.one fokW (r_callZ (zr := []) trivial rfl (k57 ([] : (List StandTrial)) _ hx_2) trivial ⟨(.nil 3), trivial⟩ rfl rfl rfl rfl (r_end ?_))
 refine RW.au fokW 1 [] ⟨[(0, .ptr 0 0)], [(0, .var 25 (cv25 r0_2))], 1, Fr.emp, [], 0⟩ (by kernel_rfl) ?_
 refine RW.nil ?_
 refine hQ_1 _ ?_
 obtain rfl := Option.some.inj h
 exact AW.ret (hR_0 _ (retX (.cons (.agg rfl rfl (Nat.le_of_ble_eq_true rfl)) .nil) (.refl _) rfl (by kernel_rfl) (by kernel_rfl)))
def g47 (weight : Int) (lean : Int) (tipped : Bool) : Option StandTrial := some (StandTrial.mk weight lean tipped)
theorem k47 (weight : Int) (lean : Int) (tipped : Bool) (r : StandTrial) (h : g47 weight lean tipped = some r) : SCall Tryd.prog Gs 47 [.d (I weight), .d (I lean), .d (.bool tipped)] [] 0 Fr.emp (.agg [.d (I r.Weight), .d (I r.Lean_), .d (.bool r.Tipped)]) [] 0 Fr.emp := by
 unfold g47 at h
 refine SCall.mkK Tryd.func47 c47 rfl rfl (by kernel_rfl) (fun Q_0 hR_0 hN_0 => ?_)
 refine AW.sa fokW [] ⟨[(0, .d (I weight)), (1, .d (I lean)), (2, .d (.bool tipped)), (6, .ptr 0 0)], [(0, .var 65 [.d (I 0), .d (I 0), .d (.bool false)])], 1, Fr.emp, [], 0⟩ (by kernel_rfl) ?_
 refine AW.sa fokW [] ⟨[(6, .ptr 0 0)], [(0, .var 65 [.d (I weight), .d (I lean), .d (.bool tipped)])], 1, Fr.emp, [], 0⟩ (by kernel_rfl) ?_
 obtain rfl := Option.some.inj h
 exact AW.ret (hR_0 _ (retX (.cons (.agg rfl rfl (Nat.le_of_ble_eq_true rfl)) .nil) (.refl _) rfl (by kernel_rfl) (by kernel_rfl)))
def g59  : Option StandBook := (g47 21 (-8) false).bind fun r0 => (g57 [r0]).bind fun r0_2 => some r0_2
theorem k59  (r : StandBook) (h : g59 = some r) : SCall Tryd.prog Gs 59 [] [] 0 Fr.emp (.agg (cv25 r)) [] 0 Fr.emp := by
 unfold g59 at h
 refine SCall.mkK Tryd.func59 c59 rfl rfl (by kernel_rfl) (fun Q_0 hR_0 hN_0 => ?_)
 refine AW.sa fokW [] ⟨[(0, .ptr 0 0)], [(0, .var 25 [.d (I 0), .d (I 0), .d (I 0), .d (I 0), .d (.nilSl), .d (I 0), .d (I 0), .d (I 0), .d (I 0), .d (.nilSl)])], 1, Fr.emp, [], 0⟩ (by kernel_rfl) ?_
 refine AW.srwK (fun Q_1 hQ_1 => ?_)
 obtain ⟨r0, hx_2, h⟩ := bsome h
 refine RW.one fokW (r_call trivial rfl (k47 21 (-8) false _ hx_2) rfl rfl (r_end ?_))
 refine RW.au fokW 1 [] ⟨[(0, .ptr 0 0), (2, .own 1 (List.map e65 [r0]).length)], [(1, .row 65 3 (List.map e65 [r0])), (0, .var 25 [.d (I 0), .d (I 0), .d (I 0), .d (I 0), .d (.nilSl), .d (I 0), .d (I 0), .d (I 0), .d (I 0), .d (.nilSl)])], 2, Fr.emp, [], 0⟩ (by kernel_rfl) ?_
 obtain ⟨r0_2, hx_3, h⟩ := bsome h
 refine RW.one fokW (r_callZ (zr := [(1, .row 65 3 (List.map e65 [r0]))]) trivial rfl (k57 [r0] _ hx_3) ⟨rfl, trivial⟩ ⟨(.own rfl rfl), trivial⟩ rfl rfl rfl rfl (r_end ?_))
 refine RW.au fokW 1 [] ⟨[(0, .ptr 0 0)], [(0, .var 25 (cv25 r0_2))], 2, Fr.emp, [], 0⟩ (by kernel_rfl) ?_
 refine RW.nil ?_
 refine hQ_1 _ ?_
 obtain rfl := Option.some.inj h
 exact AW.ret (hR_0 _ (retX (.cons (.agg rfl rfl (Nat.le_of_ble_eq_true rfl)) .nil) (.refl _) rfl (by kernel_rfl) (by kernel_rfl)))
def g76a (bB : StandBook) (bT : (List (Nat → Int))) (bL : Stand_load) (weight : Int) (m0 : List (Stand_child × StandRatio)) : Option (Bool × (List (Stand_child × StandRatio))) := (g73a bB bT bL (Stand_child.mk weight (wr (-bB.Lean_))) m0).bind fun (r0_5, m0_2) => (bif (decide (0 ≤ r0_5.Top)) then ((g73a bB bT bL (Stand_child.mk weight bB.Lean_) m0_2).bind fun (r0_5_1, m0_2_1) => some ((decide (0 ≤ r0_5_1.Top)), m0_2_1)) else (some (false, m0_2))).bind fun (v, m) => some (v, m)
theorem k76a (bB : StandBook) (bT : (List (Nat → Int))) (bL : Stand_load) (weight : Int) (m0 : List (Stand_child × StandRatio)) (r : Bool × (List (Stand_child × StandRatio))) (h : g76a bB bT bL weight m0 = some r) : SCall Tryd.prog Gs 76 [.agg [.d (I bB.Kind), .d (I bB.Front), .d (I bB.Back), .d (I bB.Radius), .d (.sl 4 (List.map e70 bB.Parts)), .d (I bB.Along), .d (I bB.High), .d (I bB.Lean_), .d (I bB.Limit), .d (.sl 3 (List.map e65 bB.Trials)), .d (.sl 4 (List.map e92 bT)), .d (I bL.weight), .d (I bL.along), .d (I bL.high), .map 0], .d (I weight)] [(0, .mp (List.map m94_34 m0))] 1 Fr.emp (match r with | (r0, m0_1) => .d (.bool r0)) (match r with | (r0, m0_1) => [(0, .mp (List.map m94_34 m0_1))]) 1 Fr.emp := by
 unfold g76a at h
 refine SCall.mkK Tryd.func76 c76 rfl rfl (by kernel_rfl) (fun Q_0 hR_0 hN_0 => ?_)
 refine AW.sa fokW [] ⟨[(1, .d (I weight)), (2, .ptr 1 0)], [(1, .var 83 (bkV bB bT bL (.map 0))), (0, .mp (List.map m94_34 m0))], 2, Fr.emp, [], 1⟩ (by kernel_rfl) ?_
 refine AW.srwK (fun Q_1 hQ_1 => ?_)
 refine RW.au fokW 7 [] ⟨[(1, .d (I weight)), (2, .ptr 1 0), (5, .agg [.d (I bB.Kind), .d (I bB.Front), .d (I bB.Back), .d (I bB.Radius), .d (.sl 4 (List.map e70 bB.Parts)), .d (I bB.Along), .d (I bB.High), .d (I bB.Lean_), .d (I bB.Limit), .d (.sl 3 (List.map e65 bB.Trials)), .d (.sl 4 (List.map e92 bT)), .d (I bL.weight), .d (I bL.along), .d (I bL.high), .map 0]), (11, .agg [.d (I weight), .d (I (wr (-bB.Lean_)))])], [(1, .var 83 (bkV bB bT bL (.map 0))), (0, .mp (List.map m94_34 m0))], 2, Fr.emp, [], 1⟩ (by kernel_rfl) ?_
 obtain ⟨⟨r0_5, m0_2⟩, hx_2, h⟩ := bsome h
 refine RW.one fokW (r_callS (zr := []) [0] trivial rfl (k73a bB bT bL (Stand_child.mk weight (wr (-bB.Lean_))) m0 _ hx_2) ⟨rfl, trivial⟩ rfl rfl ⟨.refl _, .refl _, trivial⟩ rfl rfl rfl (r_end ?_))
 refine RW.au fokW 3 [] ⟨[(1, .d (I weight)), (2, .ptr 1 0), (15, .d (.bool (decide (0 ≤ r0_5.Top))))], [(0, .mp (List.map m94_34 m0_2)), (1, .var 83 (bkV bB bT bL (.map 0)))], 2, Fr.emp, [], 1⟩ (by kernel_rfl) ?_
 obtain ⟨c_3, hx_3, h⟩ := bsome h
 refine RW.cut fokW 10 (match c_3 with | (v, m) => ⟨[(25, .d (.bool v))], [(0, .mp (List.map m94_34 m))], 1, Fr.emp, [], 1⟩) ?_ ?_
 ·refine r_split 15 rfl (fun hb_5 => ?_) (fun hb_5 => ?_)
  ·have h := ifT hb_5 hx_3
   refine RunC.auX 6 ⟨[(15, .d (.bool true)), (16, .agg [.d (I bB.Kind), .d (I bB.Front), .d (I bB.Back), .d (I bB.Radius), .d (.sl 4 (List.map e70 bB.Parts)), .d (I bB.Along), .d (I bB.High), .d (I bB.Lean_), .d (I bB.Limit), .d (.sl 3 (List.map e65 bB.Trials)), .d (.sl 4 (List.map e92 bT)), .d (I bL.weight), .d (I bL.along), .d (I bL.high), .map 0]), (21, .agg [.d (I weight), .d (I bB.Lean_)])], [(0, .mp (List.map m94_34 m0_2)), (1, .var 83 (bkV bB bT bL (.map 0)))], 2, Fr.emp, [], 1⟩ (by kernel_rfl) ?_
   obtain ⟨⟨r0_5_1, m0_2_1⟩, hx_4, h⟩ := bsome h
   refine r_callS (zr := []) [0] rfl rfl (k73a bB bT bL (Stand_child.mk weight bB.Lean_) m0_2 _ hx_4) ⟨rfl, trivial⟩ rfl rfl ⟨.refl _, .refl _, trivial⟩ rfl rfl rfl ?_
   refine RunC.auX 3 ⟨[(25, .d (.bool (decide (0 ≤ r0_5_1.Top))))], [(0, .mp (List.map m94_34 m0_2_1)), (1, .var 83 (bkV bB bT bL (.map 0)))], 2, Fr.emp, [], 1⟩ (by kernel_rfl) ?_
   obtain rfl := Option.some.inj h
   refine RunC.finJ (Can.kp (by kernel_rfl))
  ·have h := ifF hb_5 hx_3
   refine RunC.auX 10 ⟨[(25, .d (.bool false))], [(0, .mp (List.map m94_34 m0_2)), (1, .var 83 (bkV bB bT bL (.map 0)))], 2, Fr.emp, [], 1⟩ (by kernel_rfl) ?_
   obtain rfl := Option.some.inj h
   refine RunC.finJ (Can.kp (by kernel_rfl))
 ·obtain ⟨v, m⟩ := c_3
  refine RW.au fokW 1 [] ⟨[(4, .d (.bool v))], [(0, .mp (List.map m94_34 m))], 1, Fr.emp, [], 1⟩ (by kernel_rfl) ?_
  refine RW.nil ?_
  refine hQ_1 _ ?_
  obtain rfl := Option.some.inj h
  exact AW.ret (hR_0 _ (retX (.cons (.tmp rfl) .nil) (.refl _) rfl (by kernel_rfl) (by kernel_rfl)))
def g27_10 (r0B6 : StandBook) (r0T6 : (List (Nat → Int))) (r0L6 : Stand_load) : Int → (List (Stand_child × StandRatio)) → Option (Ctl (List (Stand_child × StandRatio)) (Int × Int)) := fun v m => (g76a r0B6 r0T6 r0L6 (wr (v + 1)) m).bind fun (r0, m0_1) => bif (!r0) then (some (.brk ((wr (v + 1)), 0))) else (some (.next m0_1))
def g27 (x : StandBook) : Option (Int × Int) := (g67 x true).bind fun r_18 => match r_18 with | .next (r0B5, r0T5, r0L5, r1_2) => (must (decide (r1_2 ≠ 0))).bind fun _ => some (0, r1_2) | .brk (r0B6, r0T6, r0L6, r1_3, m4_1) => bif (decide (r1_3 ≠ 0)) then (some (0, r1_3)) else ((must (decide (x.Limit ≤ 9223372036854775807))).bind fun _ => bindC (forC (g27_10 r0B6 r0T6 r0L6) (((x.Limit : Int) - 0).toNat) 0 m4_1) fun m => some (0, 4))
theorem k27 (x : StandBook) (r : Int × Int) (h : g27 x = some r) : SCall Tryd.prog Gs 27 [.agg (cv25 x)] [] 0 Fr.emp (match r with | (r0_4, r1_5) => .tup [.d (I r0_4), .d (I r1_5)]) [] 0 Fr.emp := by
 unfold g27 at h
 refine SCall.mkK Tryd.func27 c27 rfl rfl (by kernel_rfl) (fun Q_0 hR_0 hN_0 => ?_)
 refine AW.sa fokW [] ⟨[(1, .ptr 0 0)], [(0, .var 25 (cv25 x))], 1, Fr.emp, [], 0⟩ (by kernel_rfl) ?_
 refine AW.srwK (fun Q_1 hQ_1 => ?_)
 refine RW.au fokW 1 [] ⟨[(1, .ptr 0 0), (8, .agg (cv25 x))], [(0, .var 25 (cv25 x))], 1, Fr.emp, [], 0⟩ (by kernel_rfl) ?_
 obtain ⟨r_18, hx_2, h⟩ := bsome h
 rcases r_18 with (⟨r0B5, r0T5, r0L5, r1_2⟩ | (⟨r0B6, r0T6, r0L6, r1_3, m4_1⟩))
 ·refine RW.one fokW (r_callS (zr := []) [] trivial rfl (k67 x true _ hx_2) trivial rfl rfl ⟨.refl _, .refl _, trivial⟩ rfl rfl rfl (r_end ?_))
  obtain ⟨_, hv_3, h⟩ := bsome h
  have hf_4 := must_ok hv_3
  refine RW.au fokW 6 [] ⟨[(1, .ptr 0 0), (4, .ptr 1 0), (5, .d (I r1_2))], [(1, .var 83 (bkV r0B5 r0T5 r0L5 (.d (.nilMap)))), (0, .var 25 (cv25 x))], 2, Fr.emp, [], 0⟩ (by kernel_rfl) ?_
  refine RW.nil ?_
  refine hQ_1 _ ?_
  refine AW.seqK (fun K_5 hK_5 => ?_)
  refine AW.sa fokW [] ⟨[(1, .ptr 0 0), (4, .ptr 1 0), (5, .d (I r1_2)), (13, .d (.bool (decide (r1_2 ≠ 0))))], [(1, .var 83 (bkV r0B5 r0T5 r0L5 (.d (.nilMap)))), (0, .var 25 (cv25 x))], 2, Fr.emp, [], 0⟩ (by kernel_rfl) ?_
  refine AW.cond rfl (fun hb_6 => ?_) (fun hb_6 => False.elim (by rw [hf_4] at hb_6; cases hb_6))
  refine AW.sa fokW [] ⟨[(2, .d (I 0)), (3, .d (I r1_2))], [], 2, Fr.emp, [], 0⟩ (by kernel_rfl) ?_
  obtain rfl := Option.some.inj h
  exact AW.ret (hR_0 _ (retX (.cons (.tmp rfl) (.cons (.tmp rfl) .nil)) (.refl _) rfl (by kernel_rfl) (by kernel_rfl)))
 ·refine RW.one fokW (r_callS (zr := []) [] trivial rfl (k67 x true _ hx_2) trivial rfl rfl ⟨.refl _, .refl _, trivial⟩ rfl rfl rfl (r_end ?_))
  refine RW.au fokW 6 [] ⟨[(1, .ptr 0 0), (4, .ptr 6 0), (5, .d (I r1_3))], [(6, .var 83 (bkV r0B6 r0T6 r0L6 (.map 5))), (5, .mp (List.map m94_34 m4_1)), (0, .var 25 (cv25 x))], 7, Fr.emp, [], 0⟩ (by kernel_rfl) ?_
  refine RW.nil ?_
  refine hQ_1 _ ?_
  refine AW.seqK (fun K_7 hK_7 => ?_)
  refine AW.sa fokW [] ⟨[(1, .ptr 0 0), (4, .ptr 6 0), (5, .d (I r1_3)), (13, .d (.bool (decide (r1_3 ≠ 0))))], [(6, .var 83 (bkV r0B6 r0T6 r0L6 (.map 5))), (5, .mp (List.map m94_34 m4_1)), (0, .var 25 (cv25 x))], 7, Fr.emp, [], 0⟩ (by kernel_rfl) ?_
  refine AW.cond rfl (fun hb_8 => ?_) (fun hb_8 => ?_)
  ·have h := ifT hb_8 h
   refine AW.sa fokW [] ⟨[(2, .d (I 0)), (3, .d (I r1_3))], [], 7, Fr.emp, [], 0⟩ (by kernel_rfl) ?_
   obtain rfl := Option.some.inj h
   exact AW.ret (hR_0 _ (retX (.cons (.tmp rfl) (.cons (.tmp rfl) .nil)) (.refl _) rfl (by kernel_rfl) (by kernel_rfl)))
  ·have h := ifF hb_8 h
   refine AW.skip ?_
   refine hK_7 _ ?_
   refine AW.seqK (fun K_9 hK_9 => ?_)
   refine AW.sa fokW [] ⟨[(4, .ptr 6 0), (16, .d (I x.Limit)), (17, .d (I 0))], [(6, .var 83 (bkV r0B6 r0T6 r0L6 (.map 5))), (5, .mp (List.map m94_34 m4_1))], 7, Fr.emp, [], 0⟩ (by kernel_rfl) ?_
   refine AW.block ?_
   obtain ⟨_, hN_10, h⟩ := bsome h
   have hN_10 := of_decide_eq_true (must_ok hN_10)
   obtain ⟨out_10, hx_10, hk_10⟩ := bsomeC h
   refine AW.lpCK (fun (v : Int) (m : List (Stand_child × StandRatio)) => ⟨[(4, .ptr 6 0), (16, .d (I x.Limit)), (17, .d (I v))], [(6, .var 83 (bkV r0B6 r0T6 r0L6 (.map 5))), (5, .mp (List.map m94_34 m))], 7, Fr.emp, [], 0⟩) (g27_10 r0B6 r0T6 r0L6) (x.Limit) hx_10 (Can.kp (by kernel_rfl)) (fun v m hi_10 hl_10 c_10 h hb_10 K_10 hK_10 => ?_) (fun v m hi_10 hl_10 hout => ?_)
   ·unfold g27_10 at h
    refine AW.sa fokW [] ⟨[(4, .ptr 6 0), (16, .d (I x.Limit)), (17, .d (I v)), (18, .d (.bool (decide (v < x.Limit))))], [(6, .var 83 (bkV r0B6 r0T6 r0L6 (.map 5))), (5, .mp (List.map m94_34 m))], 7, Fr.emp, [], 0⟩ (by kernel_rfl) ?_
    refine AW.seqK (fun K_11 hK_11 => ?_)
    refine AW.cond rfl (fun hb_12 => ?_) (fun hb_12 => False.elim (by have := of_decide_eq_false hb_12; omega))
    refine AW.skip ?_
    refine hK_11 _ ?_
    refine AW.seqK (fun K_13 hK_13 => ?_)
    refine AW.block ?_
    refine AW.sa fokW [] ⟨[(4, .ptr 6 0), (6, .d (I v)), (16, .d (I x.Limit)), (17, .d (I v))], [(6, .var 83 (bkV r0B6 r0T6 r0L6 (.map 5))), (5, .mp (List.map m94_34 m))], 7, Fr.emp, [], 0⟩ (by kernel_rfl) ?_
    refine AW.srwK (fun Q_14 hQ_14 => ?_)
    refine RW.au fokW 3 [] ⟨[(4, .ptr 6 0), (6, .d (I v)), (16, .d (I x.Limit)), (17, .d (I v)), (20, .agg [.d (I r0B6.Kind), .d (I r0B6.Front), .d (I r0B6.Back), .d (I r0B6.Radius), .d (.sl 4 (List.map e70 r0B6.Parts)), .d (I r0B6.Along), .d (I r0B6.High), .d (I r0B6.Lean_), .d (I r0B6.Limit), .d (.sl 3 (List.map e65 r0B6.Trials)), .d (.sl 4 (List.map e92 r0T6)), .d (I r0L6.weight), .d (I r0L6.along), .d (I r0L6.high), .map 5]), (22, .d (I (wr (v + 1))))], [(6, .var 83 (bkV r0B6 r0T6 r0L6 (.map 5))), (5, .mp (List.map m94_34 m))], 7, Fr.emp, [], 0⟩ (by kernel_rfl) ?_
    obtain ⟨⟨r0, m0_1⟩, hx_15, h⟩ := bsome h
    refine RW.one fokW (r_callS (zr := []) [5] trivial rfl (k76a r0B6 r0T6 r0L6 (wr (v + 1)) m _ hx_15) ⟨rfl, trivial⟩ rfl rfl ⟨.refl _, .refl _, trivial⟩ rfl rfl rfl (r_end ?_))
    refine RW.au fokW 1 [] ⟨[(4, .ptr 6 0), (6, .d (I v)), (16, .d (I x.Limit)), (17, .d (I v)), (24, .d (.bool (!r0)))], [(5, .mp (List.map m94_34 m0_1)), (6, .var 83 (bkV r0B6 r0T6 r0L6 (.map 5)))], 7, Fr.emp, [], 0⟩ (by kernel_rfl) ?_
    refine RW.nil ?_
    refine hQ_14 _ ?_
    refine AW.cond rfl (fun hb_16 => ?_) (fun hb_16 => ?_)
    ·have h := ifT hb_16 h
     refine AW.sa fokW [] ⟨[(2, .d (I (wr (v + 1)))), (3, .d (I 0))], [], 7, Fr.emp, [], 0⟩ (by kernel_rfl) ?_
     obtain rfl := Option.some.inj h
     have e_1 := hb_10 _ rfl
     subst e_1
     obtain rfl := Aft.bk hk_10
     exact AW.ret (hR_0 _ (retX (.cons (.tmp rfl) (.cons (.tmp rfl) .nil)) (.refl _) rfl (by kernel_rfl) (by kernel_rfl)))
    ·have h := ifF hb_16 h
     refine AW.skip ?_
     refine hK_13 _ ?_
     refine AW.ra fokW [] ⟨[(4, .ptr 6 0), (16, .d (I x.Limit)), (17, .d (I (wr (v + 1))))], [(5, .mp (List.map m94_34 m0_1)), (6, .var 83 (bkV r0B6 r0T6 r0L6 (.map 5)))], 7, Fr.emp, [], 0⟩ (by kernel_rfl) ?_
     obtain rfl := Option.some.inj h
     have ew : wr (v + 1) = v + 1 := inext (N := x.Limit) (by omega) (by omega) (by omega)
     rw [ew]
     exact hK_10 _ _ rfl (Can.kp (by kernel_rfl))
   ·subst hout
    have h := Aft.nx hk_10
    refine AW.sa fokW [] ⟨[(4, .ptr 6 0), (16, .d (I x.Limit)), (17, .d (I v)), (18, .d (.bool (decide (v < x.Limit))))], [(6, .var 83 (bkV r0B6 r0T6 r0L6 (.map 5))), (5, .mp (List.map m94_34 m))], 7, Fr.emp, [], 0⟩ (by kernel_rfl) ?_
    refine AW.seqK (fun K_17 hK_17 => ?_)
    refine AW.cond rfl (fun hb_18 => False.elim (by have := of_decide_eq_true hb_18; omega)) (fun hb_18 => ?_)
    refine AW.exit ?_
    refine hK_9 _ ?_
    refine AW.sa fokW [] ⟨[(2, .d (I 0)), (3, .d (I 4))], [], 7, Fr.emp, [], 0⟩ (by kernel_rfl) ?_
    obtain rfl := Option.some.inj h
    exact AW.ret (hR_0 _ (retX (.cons (.tmp rfl) (.cons (.tmp rfl) .nil)) (.refl _) rfl (by kernel_rfl) (by kernel_rfl)))
def g29_16 (weight : Int) (r0B6 : StandBook) (r0T6 : (List (Nat → Int))) (r0L6 : Stand_load) : Int → (Int × (List (Stand_child × StandRatio))) → Option (Ctl (Int × (List (Stand_child × StandRatio))) (Int × (List (Stand_child × StandRatio)))) := fun v1 (Low2, m3) => (g73a r0B6 r0T6 r0L6 (Stand_child.mk weight (wr (-v1))) m3).bind fun (r0_5_1, m0_2_1) => bif (decide (r0_5_1.Top < 0)) then (some (.brk (Low2, m0_2_1))) else (some (.next ((wr (-v1)), m0_2_1)))
def g29_28 (weight : Int) (r0B6 : StandBook) (r0T6 : (List (Nat → Int))) (r0L6 : Stand_load) : Int → (Int × (List (Stand_child × StandRatio))) → Option (Ctl (Int × (List (Stand_child × StandRatio))) (Int)) := fun v3 (High2, m5) => (g73a r0B6 r0T6 r0L6 (Stand_child.mk weight v3) m5).bind fun (r0_5_2, m0_2_2) => bif (decide (r0_5_2.Top < 0)) then (some (.brk High2)) else (some (.next (v3, m0_2_2)))
def g29 (x : StandBook) (weight : Int) : Option (Span × Int) := (g68 x weight).bind fun r0_1 => (g67 x r0_1).bind fun r_37 => match r_37 with | .next (r0B5, r0T5, r0L5, r1_2) => (must (decide (r1_2 ≠ 0))).bind fun _ => some ((Span.mk 0 0), r1_2) | .brk (r0B6, r0T6, r0L6, r1_3, m4_1) => bif (decide (r1_3 ≠ 0)) then (some ((Span.mk 0 0), r1_3)) else ((g73a r0B6 r0T6 r0L6 (Stand_child.mk weight 0) m4_1).bind fun (r0_5, m0_2) => bif (decide (r0_5.Top < 0)) then (some ((Span.mk 0 0), 4)) else (((bindC (forC (g29_16 weight r0B6 r0T6 r0L6) ((((wr (x.Lean_ + 1)) : Int) - 0).toNat) 0 (0, m0_2)) fun (Low2, m3) => some (Low2, m3)).bind fun (Low1, m1) => some (Low1, m1)).bind fun (Low, m) => ((bindC (forC (g29_28 weight r0B6 r0T6 r0L6) ((((wr (x.Lean_ + 1)) : Int) - 0).toNat) 0 (0, m)) fun (High2, m5) => some High2).bind fun High1 => some High1).bind fun High => some ((Span.mk Low High), 0)))
theorem k29 (x : StandBook) (weight : Int) (r : Span × Int) (h : g29 x weight = some r) : SCall Tryd.prog Gs 29 [.agg (cv25 x), .d (I weight)] [] 0 Fr.emp (match r with | (r0_4, r1_5) => .tup [.agg [.d (I r0_4.Low), .d (I r0_4.High)], .d (I r1_5)]) [] 0 Fr.emp := by
 unfold g29 at h
 refine SCall.mkK Tryd.func29 c29 rfl rfl (by kernel_rfl) (fun Q_0 hR_0 hN_0 => ?_)
 refine AW.sa fokW [] ⟨[(1, .d (I weight)), (2, .ptr 0 0), (4, .ptr 1 0)], [(1, .var 42 [.d (I 0), .d (I 0)]), (0, .var 25 (cv25 x))], 2, Fr.emp, [], 0⟩ (by kernel_rfl) ?_
 refine AW.sdrwK fokW (fun Q_1 hQ_1 => ?_)
 refine RunC.auX 3 ⟨[(1, .d (I weight)), (2, .ptr 0 0), (4, .ptr 1 0), (12, .agg (cv25 x)), (13, .agg (cv25 x)), (14, .d (I weight))], [(1, .var 42 [.d (I 0), .d (I 0)]), (0, .var 25 (cv25 x))], 2, Fr.emp, [], 0⟩ (by kernel_rfl) ?_
 obtain ⟨r0_1, hx_2, h⟩ := bsome h
 refine r_call trivial rfl (k68 x weight _ hx_2) rfl rfl ?_
 obtain ⟨r_37, hx_3, h⟩ := bsome h
 rcases r_37 with (⟨r0B5, r0T5, r0L5, r1_2⟩ | (⟨r0B6, r0T6, r0L6, r1_3, m4_1⟩))
 ·refine r_callS (zr := []) [] trivial rfl (k67 x r0_1 _ hx_3) trivial rfl rfl ⟨.refl _, .refl _, trivial⟩ rfl rfl rfl ?_
  obtain ⟨_, hv_4, h⟩ := bsome h
  have hf_5 := must_ok hv_4
  refine RunC.auX 6 ⟨[(1, .d (I weight)), (2, .ptr 0 0), (4, .ptr 1 0), (6, .ptr 2 0), (7, .d (I r1_2))], [(2, .var 83 (bkV r0B5 r0T5 r0L5 (.d (.nilMap)))), (1, .var 42 [.d (I 0), .d (I 0)]), (0, .var 25 (cv25 x))], 3, Fr.emp, [], 0⟩ (by kernel_rfl) ?_
  refine RunC.fin ⟨[(1, .d (I weight)), (2, .ptr 0 0), (4, .ptr 1 0), (6, .ptr 2 0), (7, .d (I r1_2))], [(2, .var 83 (bkV r0B5 r0T5 r0L5 (.d (.nilMap)))), (1, .var 42 [.d (I 0), .d (I 0)]), (0, .var 25 (cv25 x))], 3, Fr.emp, [], 0⟩ (by kernel_rfl) (by kernel_rfl) ?_
  refine hQ_1 _ ?_
  refine AW.seqK (fun K_6 hK_6 => ?_)
  refine AW.sa fokW [] ⟨[(1, .d (I weight)), (2, .ptr 0 0), (4, .ptr 1 0), (6, .ptr 2 0), (7, .d (I r1_2)), (20, .d (.bool (decide (r1_2 ≠ 0))))], [(2, .var 83 (bkV r0B5 r0T5 r0L5 (.d (.nilMap)))), (1, .var 42 [.d (I 0), .d (I 0)]), (0, .var 25 (cv25 x))], 3, Fr.emp, [], 0⟩ (by kernel_rfl) ?_
  refine AW.cond rfl (fun hb_7 => ?_) (fun hb_7 => False.elim (by rw [hf_5] at hb_7; cases hb_7))
  refine AW.sa fokW [] ⟨[(4, .ptr 1 0), (5, .d (I r1_2))], [(1, .var 42 [.d (I 0), .d (I 0)])], 3, Fr.emp, [], 0⟩ (by kernel_rfl) ?_
  obtain rfl := Option.some.inj h
  exact AW.ret (hR_0 _ (retX (.cons (.agg rfl rfl (Nat.le_of_ble_eq_true rfl)) (.cons (.tmp rfl) .nil)) (.refl _) rfl (by kernel_rfl) (by kernel_rfl)))
 ·refine r_callS (zr := []) [] trivial rfl (k67 x r0_1 _ hx_3) trivial rfl rfl ⟨.refl _, .refl _, trivial⟩ rfl rfl rfl ?_
  refine RunC.auX 6 ⟨[(1, .d (I weight)), (2, .ptr 0 0), (4, .ptr 1 0), (6, .ptr 7 0), (7, .d (I r1_3))], [(7, .var 83 (bkV r0B6 r0T6 r0L6 (.map 6))), (6, .mp (List.map m94_34 m4_1)), (1, .var 42 [.d (I 0), .d (I 0)]), (0, .var 25 (cv25 x))], 8, Fr.emp, [], 0⟩ (by kernel_rfl) ?_
  refine RunC.fin ⟨[(1, .d (I weight)), (2, .ptr 0 0), (4, .ptr 1 0), (6, .ptr 7 0), (7, .d (I r1_3))], [(7, .var 83 (bkV r0B6 r0T6 r0L6 (.map 6))), (6, .mp (List.map m94_34 m4_1)), (1, .var 42 [.d (I 0), .d (I 0)]), (0, .var 25 (cv25 x))], 8, Fr.emp, [], 0⟩ (by kernel_rfl) (by kernel_rfl) ?_
  refine hQ_1 _ ?_
  refine AW.seqK (fun K_8 hK_8 => ?_)
  refine AW.sa fokW [] ⟨[(1, .d (I weight)), (2, .ptr 0 0), (4, .ptr 1 0), (6, .ptr 7 0), (7, .d (I r1_3)), (20, .d (.bool (decide (r1_3 ≠ 0))))], [(7, .var 83 (bkV r0B6 r0T6 r0L6 (.map 6))), (6, .mp (List.map m94_34 m4_1)), (1, .var 42 [.d (I 0), .d (I 0)]), (0, .var 25 (cv25 x))], 8, Fr.emp, [], 0⟩ (by kernel_rfl) ?_
  refine AW.cond rfl (fun hb_9 => ?_) (fun hb_9 => ?_)
  ·have h := ifT hb_9 h
   refine AW.sa fokW [] ⟨[(4, .ptr 1 0), (5, .d (I r1_3))], [(1, .var 42 [.d (I 0), .d (I 0)])], 8, Fr.emp, [], 0⟩ (by kernel_rfl) ?_
   obtain rfl := Option.some.inj h
   exact AW.ret (hR_0 _ (retX (.cons (.agg rfl rfl (Nat.le_of_ble_eq_true rfl)) (.cons (.tmp rfl) .nil)) (.refl _) rfl (by kernel_rfl) (by kernel_rfl)))
  ·have h := ifF hb_9 h
   refine AW.skip ?_
   refine hK_8 _ ?_
   refine AW.seqK (fun K_10 hK_10 => ?_)
   refine AW.srwK (fun Q_11 hQ_11 => ?_)
   refine RW.au fokW 3 [] ⟨[(1, .d (I weight)), (2, .ptr 0 0), (4, .ptr 1 0), (6, .ptr 7 0), (23, .agg [.d (I r0B6.Kind), .d (I r0B6.Front), .d (I r0B6.Back), .d (I r0B6.Radius), .d (.sl 4 (List.map e70 r0B6.Parts)), .d (I r0B6.Along), .d (I r0B6.High), .d (I r0B6.Lean_), .d (I r0B6.Limit), .d (.sl 3 (List.map e65 r0B6.Trials)), .d (.sl 4 (List.map e92 r0T6)), .d (I r0L6.weight), .d (I r0L6.along), .d (I r0L6.high), .map 6]), (25, .agg [.d (I weight), .d (I 0)])], [(7, .var 83 (bkV r0B6 r0T6 r0L6 (.map 6))), (6, .mp (List.map m94_34 m4_1)), (1, .var 42 [.d (I 0), .d (I 0)]), (0, .var 25 (cv25 x))], 8, Fr.emp, [], 0⟩ (by kernel_rfl) ?_
   obtain ⟨⟨r0_5, m0_2⟩, hx_12, h⟩ := bsome h
   refine RW.one fokW (r_callS (zr := []) [6] trivial rfl (k73a r0B6 r0T6 r0L6 (Stand_child.mk weight 0) m4_1 _ hx_12) ⟨rfl, trivial⟩ rfl rfl ⟨.refl _, .refl _, trivial⟩ rfl rfl rfl (r_end ?_))
   refine RW.au fokW 2 [] ⟨[(1, .d (I weight)), (2, .ptr 0 0), (4, .ptr 1 0), (6, .ptr 7 0), (28, .d (.bool (decide (r0_5.Top < 0))))], [(6, .mp (List.map m94_34 m0_2)), (7, .var 83 (bkV r0B6 r0T6 r0L6 (.map 6))), (1, .var 42 [.d (I 0), .d (I 0)]), (0, .var 25 (cv25 x))], 8, Fr.emp, [], 0⟩ (by kernel_rfl) ?_
   refine RW.nil ?_
   refine hQ_11 _ ?_
   refine AW.cond rfl (fun hb_13 => ?_) (fun hb_13 => ?_)
   ·have h := ifT hb_13 h
    refine AW.sa fokW [] ⟨[(4, .ptr 1 0), (5, .d (I 4))], [(1, .var 42 [.d (I 0), .d (I 0)])], 8, Fr.emp, [], 0⟩ (by kernel_rfl) ?_
    obtain rfl := Option.some.inj h
    exact AW.ret (hR_0 _ (retX (.cons (.agg rfl rfl (Nat.le_of_ble_eq_true rfl)) (.cons (.tmp rfl) .nil)) (.refl _) rfl (by kernel_rfl) (by kernel_rfl)))
   ·have h := ifF hb_13 h
    refine AW.skip ?_
    refine hK_10 _ ?_
    refine AW.sa fokW [] ⟨[(1, .d (I weight)), (2, .ptr 0 0), (4, .ptr 1 0), (6, .ptr 7 0), (8, .ptr 8 0)], [(8, .var 42 [.d (I 0), .d (I 0)]), (6, .mp (List.map m94_34 m0_2)), (7, .var 83 (bkV r0B6 r0T6 r0L6 (.map 6))), (1, .var 42 [.d (I 0), .d (I 0)]), (0, .var 25 (cv25 x))], 9, Fr.emp, [], 0⟩ (by kernel_rfl) ?_
    obtain ⟨c_14, hx_14, h⟩ := bsome h
    refine AW.jnSK (fun (⟨Low, m⟩ : Int × (List (Stand_child × StandRatio))) => ⟨[(1, .d (I weight)), (2, .ptr 0 0), (4, .ptr 1 0), (6, .ptr 7 0), (8, .ptr 8 0)], [(6, .mp (List.map m94_34 m)), (8, .var 42 [.d (I Low), .d (I 0)]), (7, .var 83 (bkV r0B6 r0T6 r0L6 (.map 6))), (1, .var 42 [.d (I 0), .d (I 0)]), (0, .var 25 (cv25 x))], 9, Fr.emp, [], 0⟩) (c := c_14) (fun K_14 hK_14 => ?_) ?_
    ·have h := hx_14
     refine AW.sa fokW [] ⟨[(1, .d (I weight)), (2, .ptr 0 0), (4, .ptr 1 0), (6, .ptr 7 0), (8, .ptr 8 0), (32, .d (I (wr (x.Lean_ + 1)))), (33, .d (I 0))], [(8, .var 42 [.d (I 0), .d (I 0)]), (6, .mp (List.map m94_34 m0_2)), (7, .var 83 (bkV r0B6 r0T6 r0L6 (.map 6))), (1, .var 42 [.d (I 0), .d (I 0)]), (0, .var 25 (cv25 x))], 9, Fr.emp, [], 0⟩ (by kernel_rfl) ?_
     obtain ⟨c_15, hx_15, h⟩ := bsome h
     refine AW.jqSK (fun (⟨Low1, m1⟩ : Int × (List (Stand_child × StandRatio))) => ⟨[(1, .d (I weight)), (2, .ptr 0 0), (4, .ptr 1 0), (6, .ptr 7 0), (8, .ptr 8 0)], [(6, .mp (List.map m94_34 m1)), (8, .var 42 [.d (I Low1), .d (I 0)]), (7, .var 83 (bkV r0B6 r0T6 r0L6 (.map 6))), (1, .var 42 [.d (I 0), .d (I 0)]), (0, .var 25 (cv25 x))], 9, Fr.emp, [], 0⟩) (c := c_15) (fun K_15 hK_15 => ?_) ?_
     ·have h := hx_15
      refine AW.block ?_
      have hN_16 : (wr (x.Lean_ + 1)) ≤ 9223372036854775807 := (wr_range _).2
      obtain ⟨out_16, hx_16, hk_16⟩ := bsomeC h
      refine AW.lpCK (fun (v1 : Int) (⟨Low2, m3⟩ : Int × (List (Stand_child × StandRatio))) => ⟨[(1, .d (I weight)), (2, .ptr 0 0), (4, .ptr 1 0), (6, .ptr 7 0), (8, .ptr 8 0), (32, .d (I (wr (x.Lean_ + 1)))), (33, .d (I v1))], [(8, .var 42 [.d (I Low2), .d (I 0)]), (6, .mp (List.map m94_34 m3)), (7, .var 83 (bkV r0B6 r0T6 r0L6 (.map 6))), (1, .var 42 [.d (I 0), .d (I 0)]), (0, .var 25 (cv25 x))], 9, Fr.emp, [], 0⟩) (g29_16 weight r0B6 r0T6 r0L6) ((wr (x.Lean_ + 1))) hx_16 (Can.kp (by kernel_rfl)) (fun v1 s_16 hi_16 hl_16 c_16 h hb_16 K_16 hK_16 => ?_) (fun v1 s_16 hi_16 hl_16 hout => ?_)
      ·obtain ⟨Low2, m3⟩ := s_16
       unfold g29_16 at h
       refine AW.sa fokW [] ⟨[(1, .d (I weight)), (2, .ptr 0 0), (4, .ptr 1 0), (6, .ptr 7 0), (8, .ptr 8 0), (32, .d (I (wr (x.Lean_ + 1)))), (33, .d (I v1)), (34, .d (.bool (decide (v1 < (wr (x.Lean_ + 1))))))], [(8, .var 42 [.d (I Low2), .d (I 0)]), (6, .mp (List.map m94_34 m3)), (7, .var 83 (bkV r0B6 r0T6 r0L6 (.map 6))), (1, .var 42 [.d (I 0), .d (I 0)]), (0, .var 25 (cv25 x))], 9, Fr.emp, [], 0⟩ (by kernel_rfl) ?_
       refine AW.seqK (fun K_17 hK_17 => ?_)
       refine AW.cond rfl (fun hb_18 => ?_) (fun hb_18 => False.elim (by have := of_decide_eq_false hb_18; omega))
       refine AW.skip ?_
       refine hK_17 _ ?_
       refine AW.seqK (fun K_19 hK_19 => ?_)
       refine AW.block ?_
       refine AW.sa fokW [] ⟨[(1, .d (I weight)), (2, .ptr 0 0), (4, .ptr 1 0), (6, .ptr 7 0), (8, .ptr 8 0), (9, .d (I v1)), (32, .d (I (wr (x.Lean_ + 1)))), (33, .d (I v1))], [(8, .var 42 [.d (I Low2), .d (I 0)]), (6, .mp (List.map m94_34 m3)), (7, .var 83 (bkV r0B6 r0T6 r0L6 (.map 6))), (1, .var 42 [.d (I 0), .d (I 0)]), (0, .var 25 (cv25 x))], 9, Fr.emp, [], 0⟩ (by kernel_rfl) ?_
       refine AW.seqK (fun K_20 hK_20 => ?_)
       refine AW.srwK (fun Q_21 hQ_21 => ?_)
       refine RW.au fokW 5 [] ⟨[(1, .d (I weight)), (2, .ptr 0 0), (4, .ptr 1 0), (6, .ptr 7 0), (8, .ptr 8 0), (9, .d (I v1)), (32, .d (I (wr (x.Lean_ + 1)))), (33, .d (I v1)), (36, .agg [.d (I r0B6.Kind), .d (I r0B6.Front), .d (I r0B6.Back), .d (I r0B6.Radius), .d (.sl 4 (List.map e70 r0B6.Parts)), .d (I r0B6.Along), .d (I r0B6.High), .d (I r0B6.Lean_), .d (I r0B6.Limit), .d (.sl 3 (List.map e65 r0B6.Trials)), .d (.sl 4 (List.map e92 r0T6)), .d (I r0L6.weight), .d (I r0L6.along), .d (I r0L6.high), .map 6]), (40, .agg [.d (I weight), .d (I (wr (-v1)))])], [(8, .var 42 [.d (I Low2), .d (I 0)]), (6, .mp (List.map m94_34 m3)), (7, .var 83 (bkV r0B6 r0T6 r0L6 (.map 6))), (1, .var 42 [.d (I 0), .d (I 0)]), (0, .var 25 (cv25 x))], 9, Fr.emp, [], 0⟩ (by kernel_rfl) ?_
       obtain ⟨⟨r0_5_1, m0_2_1⟩, hx_22, h⟩ := bsome h
       refine RW.one fokW (r_callS (zr := []) [6] trivial rfl (k73a r0B6 r0T6 r0L6 (Stand_child.mk weight (wr (-v1))) m3 _ hx_22) ⟨rfl, trivial⟩ rfl rfl ⟨.refl _, .refl _, trivial⟩ rfl rfl rfl (r_end ?_))
       refine RW.au fokW 2 [] ⟨[(1, .d (I weight)), (2, .ptr 0 0), (4, .ptr 1 0), (6, .ptr 7 0), (8, .ptr 8 0), (9, .d (I v1)), (32, .d (I (wr (x.Lean_ + 1)))), (33, .d (I v1)), (43, .d (.bool (decide (r0_5_1.Top < 0))))], [(6, .mp (List.map m94_34 m0_2_1)), (8, .var 42 [.d (I Low2), .d (I 0)]), (7, .var 83 (bkV r0B6 r0T6 r0L6 (.map 6))), (1, .var 42 [.d (I 0), .d (I 0)]), (0, .var 25 (cv25 x))], 9, Fr.emp, [], 0⟩ (by kernel_rfl) ?_
       refine RW.nil ?_
       refine hQ_21 _ ?_
       refine AW.cond rfl (fun hb_23 => ?_) (fun hb_23 => ?_)
       ·have h := ifT hb_23 h
        refine AW.exit ?_
        obtain rfl := Option.some.inj h
        have e_3 := hb_16 _ rfl
        subst e_3
        obtain rfl := Aft.bk hk_16
        exact hK_15 _ (Can.kp (by kernel_rfl))
       ·have h := ifF hb_23 h
        refine AW.skip ?_
        refine hK_20 _ ?_
        refine AW.ra fokW [] ⟨[(1, .d (I weight)), (2, .ptr 0 0), (4, .ptr 1 0), (6, .ptr 7 0), (8, .ptr 8 0), (32, .d (I (wr (x.Lean_ + 1)))), (33, .d (I v1))], [(8, .var 42 [.d (I (wr (-v1))), .d (I 0)]), (6, .mp (List.map m94_34 m0_2_1)), (7, .var 83 (bkV r0B6 r0T6 r0L6 (.map 6))), (1, .var 42 [.d (I 0), .d (I 0)]), (0, .var 25 (cv25 x))], 9, Fr.emp, [], 0⟩ (by kernel_rfl) ?_
        refine hK_19 _ ?_
        refine AW.ra fokW [] ⟨[(1, .d (I weight)), (2, .ptr 0 0), (4, .ptr 1 0), (6, .ptr 7 0), (8, .ptr 8 0), (32, .d (I (wr (x.Lean_ + 1)))), (33, .d (I (wr (v1 + 1))))], [(8, .var 42 [.d (I (wr (-v1))), .d (I 0)]), (6, .mp (List.map m94_34 m0_2_1)), (7, .var 83 (bkV r0B6 r0T6 r0L6 (.map 6))), (1, .var 42 [.d (I 0), .d (I 0)]), (0, .var 25 (cv25 x))], 9, Fr.emp, [], 0⟩ (by kernel_rfl) ?_
        obtain rfl := Option.some.inj h
        have ew : wr (v1 + 1) = v1 + 1 := inext (N := (wr (x.Lean_ + 1))) (by omega) (by omega) (by omega)
        rw [ew]
        exact hK_16 _ _ rfl (Can.kp (by kernel_rfl))
      ·obtain ⟨Low2, m3⟩ := s_16
       subst hout
       have h := Aft.nx hk_16
       refine AW.sa fokW [] ⟨[(1, .d (I weight)), (2, .ptr 0 0), (4, .ptr 1 0), (6, .ptr 7 0), (8, .ptr 8 0), (32, .d (I (wr (x.Lean_ + 1)))), (33, .d (I v1)), (34, .d (.bool (decide (v1 < (wr (x.Lean_ + 1))))))], [(8, .var 42 [.d (I Low2), .d (I 0)]), (6, .mp (List.map m94_34 m3)), (7, .var 83 (bkV r0B6 r0T6 r0L6 (.map 6))), (1, .var 42 [.d (I 0), .d (I 0)]), (0, .var 25 (cv25 x))], 9, Fr.emp, [], 0⟩ (by kernel_rfl) ?_
       refine AW.seqK (fun K_24 hK_24 => ?_)
       refine AW.cond rfl (fun hb_25 => False.elim (by have := of_decide_eq_true hb_25; omega)) (fun hb_25 => ?_)
       refine AW.exit ?_
       obtain rfl := Option.some.inj h
       exact hK_15 _ (Can.kp (by kernel_rfl))
     ·obtain ⟨Low1, m1⟩ := c_15
      obtain rfl := Option.some.inj h
      exact hK_14 _ (Can.kp (by kernel_rfl))
    ·obtain ⟨Low, m⟩ := c_14
     obtain ⟨High, hx_26, h⟩ := bsome h
     refine AW.jnSK (fun (High : Int) => ⟨[(4, .ptr 1 0), (8, .ptr 8 0)], [(8, .var 42 [.d (I Low), .d (I High)]), (1, .var 42 [.d (I 0), .d (I 0)])], 9, Fr.emp, [], 0⟩) (c := High) (fun K_26 hK_26 => ?_) ?_
     ·have h := hx_26
      refine AW.sa fokW [] ⟨[(1, .d (I weight)), (4, .ptr 1 0), (6, .ptr 7 0), (8, .ptr 8 0), (50, .d (I (wr (x.Lean_ + 1)))), (51, .d (I 0))], [(6, .mp (List.map m94_34 m)), (8, .var 42 [.d (I Low), .d (I 0)]), (7, .var 83 (bkV r0B6 r0T6 r0L6 (.map 6))), (1, .var 42 [.d (I 0), .d (I 0)])], 9, Fr.emp, [], 0⟩ (by kernel_rfl) ?_
      obtain ⟨High1, hx_27, h⟩ := bsome h
      refine AW.jqSK (fun (High1 : Int) => ⟨[(4, .ptr 1 0), (8, .ptr 8 0)], [(8, .var 42 [.d (I Low), .d (I High1)]), (1, .var 42 [.d (I 0), .d (I 0)])], 9, Fr.emp, [], 0⟩) (c := High1) (fun K_27 hK_27 => ?_) ?_
      ·have h := hx_27
       refine AW.block ?_
       have hN_28 : (wr (x.Lean_ + 1)) ≤ 9223372036854775807 := (wr_range _).2
       obtain ⟨out_28, hx_28, hk_28⟩ := bsomeC h
       refine AW.lpCK (fun (v3 : Int) (⟨High2, m5⟩ : Int × (List (Stand_child × StandRatio))) => ⟨[(1, .d (I weight)), (4, .ptr 1 0), (6, .ptr 7 0), (8, .ptr 8 0), (50, .d (I (wr (x.Lean_ + 1)))), (51, .d (I v3))], [(6, .mp (List.map m94_34 m5)), (8, .var 42 [.d (I Low), .d (I High2)]), (7, .var 83 (bkV r0B6 r0T6 r0L6 (.map 6))), (1, .var 42 [.d (I 0), .d (I 0)])], 9, Fr.emp, [], 0⟩) (g29_28 weight r0B6 r0T6 r0L6) ((wr (x.Lean_ + 1))) hx_28 (Can.kp (by kernel_rfl)) (fun v3 s_28 hi_28 hl_28 c_28 h hb_28 K_28 hK_28 => ?_) (fun v3 s_28 hi_28 hl_28 hout => ?_)
       ·obtain ⟨High2, m5⟩ := s_28
        unfold g29_28 at h
        refine AW.sa fokW [] ⟨[(1, .d (I weight)), (4, .ptr 1 0), (6, .ptr 7 0), (8, .ptr 8 0), (50, .d (I (wr (x.Lean_ + 1)))), (51, .d (I v3)), (52, .d (.bool (decide (v3 < (wr (x.Lean_ + 1))))))], [(6, .mp (List.map m94_34 m5)), (8, .var 42 [.d (I Low), .d (I High2)]), (7, .var 83 (bkV r0B6 r0T6 r0L6 (.map 6))), (1, .var 42 [.d (I 0), .d (I 0)])], 9, Fr.emp, [], 0⟩ (by kernel_rfl) ?_
        refine AW.seqK (fun K_29 hK_29 => ?_)
        refine AW.cond rfl (fun hb_30 => ?_) (fun hb_30 => False.elim (by have := of_decide_eq_false hb_30; omega))
        refine AW.skip ?_
        refine hK_29 _ ?_
        refine AW.seqK (fun K_31 hK_31 => ?_)
        refine AW.block ?_
        refine AW.sa fokW [] ⟨[(1, .d (I weight)), (4, .ptr 1 0), (6, .ptr 7 0), (8, .ptr 8 0), (10, .d (I v3)), (50, .d (I (wr (x.Lean_ + 1)))), (51, .d (I v3))], [(6, .mp (List.map m94_34 m5)), (8, .var 42 [.d (I Low), .d (I High2)]), (7, .var 83 (bkV r0B6 r0T6 r0L6 (.map 6))), (1, .var 42 [.d (I 0), .d (I 0)])], 9, Fr.emp, [], 0⟩ (by kernel_rfl) ?_
        refine AW.seqK (fun K_32 hK_32 => ?_)
        refine AW.srwK (fun Q_33 hQ_33 => ?_)
        refine RW.au fokW 4 [] ⟨[(1, .d (I weight)), (4, .ptr 1 0), (6, .ptr 7 0), (8, .ptr 8 0), (10, .d (I v3)), (50, .d (I (wr (x.Lean_ + 1)))), (51, .d (I v3)), (54, .agg [.d (I r0B6.Kind), .d (I r0B6.Front), .d (I r0B6.Back), .d (I r0B6.Radius), .d (.sl 4 (List.map e70 r0B6.Parts)), .d (I r0B6.Along), .d (I r0B6.High), .d (I r0B6.Lean_), .d (I r0B6.Limit), .d (.sl 3 (List.map e65 r0B6.Trials)), .d (.sl 4 (List.map e92 r0T6)), .d (I r0L6.weight), .d (I r0L6.along), .d (I r0L6.high), .map 6]), (57, .agg [.d (I weight), .d (I v3)])], [(6, .mp (List.map m94_34 m5)), (8, .var 42 [.d (I Low), .d (I High2)]), (7, .var 83 (bkV r0B6 r0T6 r0L6 (.map 6))), (1, .var 42 [.d (I 0), .d (I 0)])], 9, Fr.emp, [], 0⟩ (by kernel_rfl) ?_
        obtain ⟨⟨r0_5_2, m0_2_2⟩, hx_34, h⟩ := bsome h
        refine RW.one fokW (r_callS (zr := []) [6] trivial rfl (k73a r0B6 r0T6 r0L6 (Stand_child.mk weight v3) m5 _ hx_34) ⟨rfl, trivial⟩ rfl rfl ⟨.refl _, .refl _, trivial⟩ rfl rfl rfl (r_end ?_))
        refine RW.au fokW 2 [] ⟨[(1, .d (I weight)), (4, .ptr 1 0), (6, .ptr 7 0), (8, .ptr 8 0), (10, .d (I v3)), (50, .d (I (wr (x.Lean_ + 1)))), (51, .d (I v3)), (60, .d (.bool (decide (r0_5_2.Top < 0))))], [(6, .mp (List.map m94_34 m0_2_2)), (8, .var 42 [.d (I Low), .d (I High2)]), (7, .var 83 (bkV r0B6 r0T6 r0L6 (.map 6))), (1, .var 42 [.d (I 0), .d (I 0)])], 9, Fr.emp, [], 0⟩ (by kernel_rfl) ?_
        refine RW.nil ?_
        refine hQ_33 _ ?_
        refine AW.cond rfl (fun hb_35 => ?_) (fun hb_35 => ?_)
        ·have h := ifT hb_35 h
         refine AW.exit ?_
         obtain rfl := Option.some.inj h
         have e_3 := hb_28 _ rfl
         subst e_3
         obtain rfl := Aft.bk hk_28
         exact hK_27 _ (Can.kp (by kernel_rfl))
        ·have h := ifF hb_35 h
         refine AW.skip ?_
         refine hK_32 _ ?_
         refine AW.ra fokW [] ⟨[(1, .d (I weight)), (4, .ptr 1 0), (6, .ptr 7 0), (8, .ptr 8 0), (50, .d (I (wr (x.Lean_ + 1)))), (51, .d (I v3))], [(8, .var 42 [.d (I Low), .d (I v3)]), (6, .mp (List.map m94_34 m0_2_2)), (7, .var 83 (bkV r0B6 r0T6 r0L6 (.map 6))), (1, .var 42 [.d (I 0), .d (I 0)])], 9, Fr.emp, [], 0⟩ (by kernel_rfl) ?_
         refine hK_31 _ ?_
         refine AW.ra fokW [] ⟨[(1, .d (I weight)), (4, .ptr 1 0), (6, .ptr 7 0), (8, .ptr 8 0), (50, .d (I (wr (x.Lean_ + 1)))), (51, .d (I (wr (v3 + 1))))], [(8, .var 42 [.d (I Low), .d (I v3)]), (6, .mp (List.map m94_34 m0_2_2)), (7, .var 83 (bkV r0B6 r0T6 r0L6 (.map 6))), (1, .var 42 [.d (I 0), .d (I 0)])], 9, Fr.emp, [], 0⟩ (by kernel_rfl) ?_
         obtain rfl := Option.some.inj h
         have ew : wr (v3 + 1) = v3 + 1 := inext (N := (wr (x.Lean_ + 1))) (by omega) (by omega) (by omega)
         rw [ew]
         exact hK_28 _ _ rfl (Can.kp (by kernel_rfl))
       ·obtain ⟨High2, m5⟩ := s_28
        subst hout
        have h := Aft.nx hk_28
        refine AW.sa fokW [] ⟨[(1, .d (I weight)), (4, .ptr 1 0), (6, .ptr 7 0), (8, .ptr 8 0), (50, .d (I (wr (x.Lean_ + 1)))), (51, .d (I v3)), (52, .d (.bool (decide (v3 < (wr (x.Lean_ + 1))))))], [(6, .mp (List.map m94_34 m5)), (8, .var 42 [.d (I Low), .d (I High2)]), (7, .var 83 (bkV r0B6 r0T6 r0L6 (.map 6))), (1, .var 42 [.d (I 0), .d (I 0)])], 9, Fr.emp, [], 0⟩ (by kernel_rfl) ?_
        refine AW.seqK (fun K_36 hK_36 => ?_)
        refine AW.cond rfl (fun hb_37 => False.elim (by have := of_decide_eq_true hb_37; omega)) (fun hb_37 => ?_)
        refine AW.exit ?_
        obtain rfl := Option.some.inj h
        exact hK_27 _ (Can.kp (by kernel_rfl))
      ·obtain rfl := Option.some.inj h
       exact hK_26 _ (Can.kp (by kernel_rfl))
     ·refine AW.sa fokW [] ⟨[(4, .ptr 1 0), (5, .d (I 0))], [(1, .var 42 [.d (I Low), .d (I High)])], 9, Fr.emp, [], 0⟩ (by kernel_rfl) ?_
      obtain rfl := Option.some.inj h
      exact AW.ret (hR_0 _ (retX (.cons (.agg rfl rfl (Nat.le_of_ble_eq_true rfl)) (.cons (.tmp rfl) .nil)) (.refl _) rfl (by kernel_rfl) (by kernel_rfl)))
def g80 (bB : StandBook) (bT : (List (Nat → Int))) (bL : Stand_load) (lead : Stand_load) (wider : Int) : Option (StandBook × (List (Nat → Int)) × Stand_load × (List (Stand_child × StandRatio))) := some ((StandBook.mk bB.Kind (wr (bB.Front + wider)) (wr (bB.Back + wider)) bB.Radius bB.Parts bB.Along bB.High bB.Lean_ bB.Limit bB.Trials), bT, lead, [])
theorem k80 (bB : StandBook) (bT : (List (Nat → Int))) (bL : Stand_load) (lead : Stand_load) (wider : Int) (r : StandBook × (List (Nat → Int)) × Stand_load × (List (Stand_child × StandRatio))) (h : g80 bB bT bL lead wider = some r) : SCall Tryd.prog Gs 80 [.agg [.d (I bB.Kind), .d (I bB.Front), .d (I bB.Back), .d (I bB.Radius), .d (.sl 4 (List.map e70 bB.Parts)), .d (I bB.Along), .d (I bB.High), .d (I bB.Lean_), .d (I bB.Limit), .d (.sl 3 (List.map e65 bB.Trials)), .d (.sl 4 (List.map e92 bT)), .d (I bL.weight), .d (I bL.along), .d (I bL.high), .opq], .agg [.d (I lead.weight), .d (I lead.along), .d (I lead.high)], .d (I wider)] [] 0 Fr.emp (match r with | (r0B, r0T, r0L, m4) => .agg [.d (I r0B.Kind), .d (I r0B.Front), .d (I r0B.Back), .d (I r0B.Radius), .d (.sl 4 (List.map e70 r0B.Parts)), .d (I r0B.Along), .d (I r0B.High), .d (I r0B.Lean_), .d (I r0B.Limit), .d (.sl 3 (List.map e65 r0B.Trials)), .d (.sl 4 (List.map e92 r0T)), .d (I r0L.weight), .d (I r0L.along), .d (I r0L.high), .map 4]) (match r with | (r0B, r0T, r0L, m4) => [(4, .mp (List.map m94_34 m4))]) 5 Fr.emp := by
 unfold g80 at h
 refine SCall.mkK Tryd.func80 c80 rfl rfl (by kernel_rfl) (fun Q_0 hR_0 hN_0 => ?_)
 refine AW.sa fokW [] ⟨[(2, .d (I wider)), (3, .ptr 0 0), (4, .ptr 1 0), (6, .ptr 2 0)], [(2, .var 83 [.d (I 0), .d (I 0), .d (I 0), .d (I 0), .d (.nilSl), .d (I 0), .d (I 0), .d (I 0), .d (I 0), .d (.nilSl), .d (.nilSl), .d (I 0), .d (I 0), .d (I 0), .d (.nilMap)]), (1, .var 80 [.d (I lead.weight), .d (I lead.along), .d (I lead.high)]), (0, .var 83 (bkV bB bT bL .opq))], 3, Fr.emp, [], 0⟩ (by kernel_rfl) ?_
 refine AW.sa fokW [] ⟨[(2, .d (I wider)), (3, .ptr 0 0), (4, .ptr 1 0), (6, .ptr 2 0), (7, .ptr 3 0)], [(3, .var 83 (bkV bB bT bL .opq)), (2, .var 83 [.d (I 0), .d (I 0), .d (I 0), .d (I 0), .d (.nilSl), .d (I 0), .d (I 0), .d (I 0), .d (I 0), .d (.nilSl), .d (.nilSl), .d (I 0), .d (I 0), .d (I 0), .d (.nilMap)]), (1, .var 80 [.d (I lead.weight), .d (I lead.along), .d (I lead.high)]), (0, .var 83 (bkV bB bT bL .opq))], 4, Fr.emp, [], 0⟩ (by kernel_rfl) ?_
 refine AW.sa fokW [] ⟨[(6, .ptr 2 0), (7, .ptr 3 0)], [(3, .var 83 [.d (I bB.Kind), .d (I (wr (bB.Front + wider))), .d (I (wr (bB.Back + wider))), .d (I bB.Radius), .d (.sl 4 (List.map e70 bB.Parts)), .d (I bB.Along), .d (I bB.High), .d (I bB.Lean_), .d (I bB.Limit), .d (.sl 3 (List.map e65 bB.Trials)), .d (.sl 4 (List.map e92 bT)), .d (I lead.weight), .d (I lead.along), .d (I lead.high), .map 4]), (4, .mp (List.map m94_34 [])), (2, .var 83 [.d (I 0), .d (I 0), .d (I 0), .d (I 0), .d (.nilSl), .d (I 0), .d (I 0), .d (I 0), .d (I 0), .d (.nilSl), .d (.nilSl), .d (I 0), .d (I 0), .d (I 0), .d (.nilMap)])], 5, Fr.emp, [], 0⟩ (by kernel_rfl) ?_
 refine AW.sa fokW [] ⟨[(6, .ptr 2 0)], [(2, .var 83 [.d (I bB.Kind), .d (I (wr (bB.Front + wider))), .d (I (wr (bB.Back + wider))), .d (I bB.Radius), .d (.sl 4 (List.map e70 bB.Parts)), .d (I bB.Along), .d (I bB.High), .d (I bB.Lean_), .d (I bB.Limit), .d (.sl 3 (List.map e65 bB.Trials)), .d (.sl 4 (List.map e92 bT)), .d (I lead.weight), .d (I lead.along), .d (I lead.high), .map 4]), (4, .mp (List.map m94_34 []))], 5, Fr.emp, [], 0⟩ (by kernel_rfl) ?_
 obtain rfl := Option.some.inj h
 exact AW.ret (hR_0 _ (retX (.cons (.agg rfl rfl (Nat.le_of_ble_eq_true rfl)) .nil) (.refl _) rfl (by kernel_rfl) (by kernel_rfl)))
def g81a (bB : StandBook) (bT : (List (Nat → Int))) (bL : Stand_load) (m0 : List (Stand_child × StandRatio)) : Option (Bool × (List (Stand_child × StandRatio))) := (g76a bB bT bL 1 m0).bind fun (r0, m0_1) => (bif r0 then ((g76a bB bT bL bB.Limit m0_1).bind fun (r0_1, m0_1_1) => some (r0_1, m0_1_1)) else (some (false, m0_1))).bind fun (v, m) => some (v, m)
theorem k81a (bB : StandBook) (bT : (List (Nat → Int))) (bL : Stand_load) (m0 : List (Stand_child × StandRatio)) (r : Bool × (List (Stand_child × StandRatio))) (h : g81a bB bT bL m0 = some r) : SCall Tryd.prog Gs 81 [.agg [.d (I bB.Kind), .d (I bB.Front), .d (I bB.Back), .d (I bB.Radius), .d (.sl 4 (List.map e70 bB.Parts)), .d (I bB.Along), .d (I bB.High), .d (I bB.Lean_), .d (I bB.Limit), .d (.sl 3 (List.map e65 bB.Trials)), .d (.sl 4 (List.map e92 bT)), .d (I bL.weight), .d (I bL.along), .d (I bL.high), .map 0]] [(0, .mp (List.map m94_34 m0))] 1 Fr.emp (match r with | (r0_2, m0_2) => .d (.bool r0_2)) (match r with | (r0_2, m0_2) => [(0, .mp (List.map m94_34 m0_2))]) 1 Fr.emp := by
 unfold g81a at h
 refine SCall.mkK Tryd.func81 c81 rfl rfl (by kernel_rfl) (fun Q_0 hR_0 hN_0 => ?_)
 refine AW.sa fokW [] ⟨[(1, .ptr 1 0)], [(1, .var 83 (bkV bB bT bL (.map 0))), (0, .mp (List.map m94_34 m0))], 2, Fr.emp, [], 1⟩ (by kernel_rfl) ?_
 refine AW.srwK (fun Q_1 hQ_1 => ?_)
 refine RW.au fokW 1 [] ⟨[(1, .ptr 1 0), (3, .agg [.d (I bB.Kind), .d (I bB.Front), .d (I bB.Back), .d (I bB.Radius), .d (.sl 4 (List.map e70 bB.Parts)), .d (I bB.Along), .d (I bB.High), .d (I bB.Lean_), .d (I bB.Limit), .d (.sl 3 (List.map e65 bB.Trials)), .d (.sl 4 (List.map e92 bT)), .d (I bL.weight), .d (I bL.along), .d (I bL.high), .map 0])], [(1, .var 83 (bkV bB bT bL (.map 0))), (0, .mp (List.map m94_34 m0))], 2, Fr.emp, [], 1⟩ (by kernel_rfl) ?_
 obtain ⟨⟨r0, m0_1⟩, hx_2, h⟩ := bsome h
 refine RW.one fokW (r_callS (zr := []) [0] trivial rfl (k76a bB bT bL 1 m0 _ hx_2) ⟨rfl, trivial⟩ rfl rfl ⟨.refl _, .refl _, trivial⟩ rfl rfl rfl (r_end ?_))
 refine RW.au fokW 1 [] ⟨[(1, .ptr 1 0), (5, .d (.bool r0))], [(0, .mp (List.map m94_34 m0_1)), (1, .var 83 (bkV bB bT bL (.map 0)))], 2, Fr.emp, [], 1⟩ (by kernel_rfl) ?_
 obtain ⟨c_3, hx_3, h⟩ := bsome h
 refine RW.cut fokW 6 (match c_3 with | (v, m) => ⟨[(11, .d (.bool v))], [(0, .mp (List.map m94_34 m))], 1, Fr.emp, [], 1⟩) ?_ ?_
 ·refine r_split 5 rfl (fun hb_5 => ?_) (fun hb_5 => ?_)
  ·have h := ifT hb_5 hx_3
   refine RunC.auX 4 ⟨[(5, .d (.bool true)), (6, .agg [.d (I bB.Kind), .d (I bB.Front), .d (I bB.Back), .d (I bB.Radius), .d (.sl 4 (List.map e70 bB.Parts)), .d (I bB.Along), .d (I bB.High), .d (I bB.Lean_), .d (I bB.Limit), .d (.sl 3 (List.map e65 bB.Trials)), .d (.sl 4 (List.map e92 bT)), .d (I bL.weight), .d (I bL.along), .d (I bL.high), .map 0]), (9, .d (I bB.Limit))], [(0, .mp (List.map m94_34 m0_1)), (1, .var 83 (bkV bB bT bL (.map 0)))], 2, Fr.emp, [], 1⟩ (by kernel_rfl) ?_
   obtain ⟨⟨r0_1, m0_1_1⟩, hx_4, h⟩ := bsome h
   refine r_callS (zr := []) [0] rfl rfl (k76a bB bT bL bB.Limit m0_1 _ hx_4) ⟨rfl, trivial⟩ rfl rfl ⟨.refl _, .refl _, trivial⟩ rfl rfl rfl ?_
   refine RunC.auX 1 ⟨[(11, .d (.bool r0_1))], [(0, .mp (List.map m94_34 m0_1_1)), (1, .var 83 (bkV bB bT bL (.map 0)))], 2, Fr.emp, [], 1⟩ (by kernel_rfl) ?_
   obtain rfl := Option.some.inj h
   refine RunC.finJ (Can.kp (by kernel_rfl))
  ·have h := ifF hb_5 hx_3
   refine RunC.auX 6 ⟨[(11, .d (.bool false))], [(0, .mp (List.map m94_34 m0_1)), (1, .var 83 (bkV bB bT bL (.map 0)))], 2, Fr.emp, [], 1⟩ (by kernel_rfl) ?_
   obtain rfl := Option.some.inj h
   refine RunC.finJ (Can.kp (by kernel_rfl))
 ·obtain ⟨v, m⟩ := c_3
  refine RW.au fokW 1 [] ⟨[(2, .d (.bool v))], [(0, .mp (List.map m94_34 m))], 1, Fr.emp, [], 1⟩ (by kernel_rfl) ?_
  refine RW.nil ?_
  refine hQ_1 _ ?_
  obtain rfl := Option.some.inj h
  exact AW.ret (hR_0 _ (retX (.cons (.tmp rfl) .nil) (.refl _) rfl (by kernel_rfl) (by kernel_rfl)))
def g31_11 (along : Int) (r0B6 : StandBook) (r0T6 : (List (Nat → Int))) (r0L6 : Stand_load) : Int → Unit → Option (Ctl (Unit) (Int × Int)) := fun v _ => (g80 r0B6 r0T6 r0L6 (Stand_load.mk v (wr (v * along)) 0) 0).bind fun (r0B, r0T, r0L, m4) => (g81a r0B r0T r0L m4).bind fun (r0_2, m0_2) => bif r0_2 then (some (.brk (v, 0))) else (some (.next ()))
def g31 (x : StandBook) (along : Int) : Option (Int × Int) := (g63 along (-60) 60).bind fun r0 => (g67 x r0).bind fun r_20 => match r_20 with | .next (r0B5, r0T5, r0L5, r1_2) => (must (decide (r1_2 ≠ 0))).bind fun _ => some (0, r1_2) | .brk (r0B6, r0T6, r0L6, r1_3, m4_1) => bif (decide (r1_3 ≠ 0)) then (some (0, r1_3)) else (bindC (forC (g31_11 along r0B6 r0T6 r0L6) (((100 : Int) - 0).toNat) 0 ()) fun _ => some (0, 4))
theorem k31 (x : StandBook) (along : Int) (r : Int × Int) (h : g31 x along = some r) : SCall Tryd.prog Gs 31 [.agg (cv25 x), .d (I along)] [] 0 Fr.emp (match r with | (r0_5, r1_5) => .tup [.d (I r0_5), .d (I r1_5)]) [] 0 Fr.emp := by
 unfold g31 at h
 refine SCall.mkK Tryd.func31 c31 rfl rfl (by kernel_rfl) (fun Q_0 hR_0 hN_0 => ?_)
 refine AW.sa fokW [] ⟨[(1, .d (I along)), (2, .ptr 0 0)], [(0, .var 25 (cv25 x))], 1, Fr.emp, [], 0⟩ (by kernel_rfl) ?_
 refine AW.sdrwK fokW (fun Q_1 hQ_1 => ?_)
 refine RunC.auX 2 ⟨[(1, .d (I along)), (10, .agg (cv25 x)), (11, .d (I along))], [(0, .var 25 (cv25 x))], 1, Fr.emp, [], 0⟩ (by kernel_rfl) ?_
 obtain ⟨r0, hx_2, h⟩ := bsome h
 refine r_call trivial rfl (k63 along (-60) 60 _ hx_2) rfl rfl ?_
 obtain ⟨r_20, hx_3, h⟩ := bsome h
 rcases r_20 with (⟨r0B5, r0T5, r0L5, r1_2⟩ | (⟨r0B6, r0T6, r0L6, r1_3, m4_1⟩))
 ·refine r_callS (zr := []) [] trivial rfl (k67 x r0 _ hx_3) trivial rfl rfl ⟨.refl _, .refl _, trivial⟩ rfl rfl rfl ?_
  obtain ⟨_, hv_4, h⟩ := bsome h
  have hf_5 := must_ok hv_4
  refine RunC.auX 6 ⟨[(1, .d (I along)), (6, .ptr 1 0), (7, .d (I r1_2))], [(1, .var 83 (bkV r0B5 r0T5 r0L5 (.d (.nilMap)))), (0, .var 25 (cv25 x))], 2, Fr.emp, [], 0⟩ (by kernel_rfl) ?_
  refine RunC.fin ⟨[(1, .d (I along)), (6, .ptr 1 0), (7, .d (I r1_2))], [(1, .var 83 (bkV r0B5 r0T5 r0L5 (.d (.nilMap))))], 2, Fr.emp, [], 0⟩ (by kernel_rfl) (by kernel_rfl) ?_
  refine hQ_1 _ ?_
  refine AW.seqK (fun K_6 hK_6 => ?_)
  refine AW.sa fokW [] ⟨[(1, .d (I along)), (6, .ptr 1 0), (7, .d (I r1_2)), (17, .d (.bool (decide (r1_2 ≠ 0))))], [(1, .var 83 (bkV r0B5 r0T5 r0L5 (.d (.nilMap))))], 2, Fr.emp, [], 0⟩ (by kernel_rfl) ?_
  refine AW.cond rfl (fun hb_7 => ?_) (fun hb_7 => False.elim (by rw [hf_5] at hb_7; cases hb_7))
  refine AW.sa fokW [] ⟨[(4, .d (I 0)), (5, .d (I r1_2))], [], 2, Fr.emp, [], 0⟩ (by kernel_rfl) ?_
  obtain rfl := Option.some.inj h
  exact AW.ret (hR_0 _ (retX (.cons (.tmp rfl) (.cons (.tmp rfl) .nil)) (.refl _) rfl (by kernel_rfl) (by kernel_rfl)))
 ·refine r_callS (zr := []) [] trivial rfl (k67 x r0 _ hx_3) trivial rfl rfl ⟨.refl _, .refl _, trivial⟩ rfl rfl rfl ?_
  refine RunC.auX 6 ⟨[(1, .d (I along)), (6, .ptr 6 0), (7, .d (I r1_3))], [(6, .var 83 (bkV r0B6 r0T6 r0L6 (.map 5))), (5, .mp (List.map m94_34 m4_1)), (0, .var 25 (cv25 x))], 7, Fr.emp, [], 0⟩ (by kernel_rfl) ?_
  refine RunC.fin ⟨[(1, .d (I along)), (6, .ptr 6 0), (7, .d (I r1_3))], [(6, .var 83 (bkV r0B6 r0T6 r0L6 (.map 5))), (5, .mp (List.map m94_34 m4_1))], 7, Fr.emp, [], 0⟩ (by kernel_rfl) (by kernel_rfl) ?_
  refine hQ_1 _ ?_
  refine AW.seqK (fun K_8 hK_8 => ?_)
  refine AW.sa fokW [] ⟨[(1, .d (I along)), (6, .ptr 6 0), (7, .d (I r1_3)), (17, .d (.bool (decide (r1_3 ≠ 0))))], [(6, .var 83 (bkV r0B6 r0T6 r0L6 (.map 5))), (5, .mp (List.map m94_34 m4_1))], 7, Fr.emp, [], 0⟩ (by kernel_rfl) ?_
  refine AW.cond rfl (fun hb_9 => ?_) (fun hb_9 => ?_)
  ·have h := ifT hb_9 h
   refine AW.sa fokW [] ⟨[(4, .d (I 0)), (5, .d (I r1_3))], [], 7, Fr.emp, [], 0⟩ (by kernel_rfl) ?_
   obtain rfl := Option.some.inj h
   exact AW.ret (hR_0 _ (retX (.cons (.tmp rfl) (.cons (.tmp rfl) .nil)) (.refl _) rfl (by kernel_rfl) (by kernel_rfl)))
  ·have h := ifF hb_9 h
   refine AW.skip ?_
   refine hK_8 _ ?_
   refine AW.seqK (fun K_10 hK_10 => ?_)
   refine AW.sa fokW [] ⟨[(1, .d (I along)), (6, .ptr 6 0), (19, .d (I 0))], [(6, .var 83 (bkV r0B6 r0T6 r0L6 (.map 5))), (5, .mp (List.map m94_34 m4_1))], 7, Fr.emp, [], 0⟩ (by kernel_rfl) ?_
   refine AW.block ?_
   have hN_11 : (100 : Int) ≤ 9223372036854775807 := by decide
   obtain ⟨out_11, hx_11, hk_11⟩ := bsomeC h
   refine AW.lpCK (fun (v : Int) (_ : Unit) => ⟨[(1, .d (I along)), (6, .ptr 6 0), (19, .d (I v))], [(6, .var 83 (bkV r0B6 r0T6 r0L6 (.map 5))), (5, .mp (List.map m94_34 m4_1))], 7, Fr.emp, [], 0⟩) (g31_11 along r0B6 r0T6 r0L6) (100) hx_11 (Can.kp (by kernel_rfl)) (fun v s_11 hi_11 hl_11 c_11 h hb_11 K_11 hK_11 => ?_) (fun v s_11 hi_11 hl_11 hout => ?_)
   ·unfold g31_11 at h
    refine AW.sa fokW [] ⟨[(1, .d (I along)), (6, .ptr 6 0), (19, .d (I v)), (20, .d (.bool (decide (v < 100))))], [(6, .var 83 (bkV r0B6 r0T6 r0L6 (.map 5))), (5, .mp (List.map m94_34 m4_1))], 7, Fr.emp, [], 0⟩ (by kernel_rfl) ?_
    refine AW.seqK (fun K_12 hK_12 => ?_)
    refine AW.cond rfl (fun hb_13 => ?_) (fun hb_13 => False.elim (by have := of_decide_eq_false hb_13; omega))
    refine AW.skip ?_
    refine hK_12 _ ?_
    refine AW.seqK (fun K_14 hK_14 => ?_)
    refine AW.block ?_
    refine AW.sa fokW [] ⟨[(1, .d (I along)), (6, .ptr 6 0), (8, .d (I v)), (19, .d (I v))], [(6, .var 83 (bkV r0B6 r0T6 r0L6 (.map 5))), (5, .mp (List.map m94_34 m4_1))], 7, Fr.emp, [], 0⟩ (by kernel_rfl) ?_
    refine AW.srwK (fun Q_15 hQ_15 => ?_)
    refine RW.au fokW 6 [] ⟨[(1, .d (I along)), (6, .ptr 6 0), (8, .d (I v)), (19, .d (I v)), (22, .agg [.d (I r0B6.Kind), .d (I r0B6.Front), .d (I r0B6.Back), .d (I r0B6.Radius), .d (.sl 4 (List.map e70 r0B6.Parts)), .d (I r0B6.Along), .d (I r0B6.High), .d (I r0B6.Lean_), .d (I r0B6.Limit), .d (.sl 3 (List.map e65 r0B6.Trials)), .d (.sl 4 (List.map e92 r0T6)), .d (I r0L6.weight), .d (I r0L6.along), .d (I r0L6.high), .map 5]), (27, .agg [.d (I v), .d (I (wr (v * along))), .d (I 0)])], [(6, .var 83 (bkV r0B6 r0T6 r0L6 (.map 5))), (5, .mp (List.map m94_34 m4_1))], 7, Fr.emp, [], 0⟩ (by kernel_rfl) ?_
    obtain ⟨⟨r0B, r0T, r0L, m4⟩, hx_16, h⟩ := bsome h
    refine RW.one fokW (r_callS (zr := []) [] trivial rfl (k80 r0B6 r0T6 r0L6 (Stand_load.mk v (wr (v * along)) 0) 0 _ hx_16) trivial rfl rfl ⟨(Frz.agg_of ⟨.refl _, .refl _, .refl _, .refl _, .refl _, .refl _, .refl _, .refl _, .refl _, .refl _, .refl _, .refl _, .refl _, .refl _, (.opq rfl (by intro _ h; cases h)), trivial⟩), .refl _, .refl _, trivial⟩ rfl rfl rfl (r_end ?_))
    obtain ⟨⟨r0_2, m0_2⟩, hx_17, h⟩ := bsome h
    refine RW.one fokW (r_callS (zr := []) [11] trivial rfl (k81a r0B r0T r0L m4 _ hx_17) ⟨rfl, trivial⟩ rfl rfl ⟨.refl _, trivial⟩ rfl rfl rfl (r_end ?_))
    refine RW.nil ?_
    refine hQ_15 _ ?_
    refine AW.cond rfl (fun hb_18 => ?_) (fun hb_18 => ?_)
    ·have h := ifT hb_18 h
     refine AW.sa fokW [] ⟨[(4, .d (I v)), (5, .d (I 0))], [], 12, Fr.emp, [], 0⟩ (by kernel_rfl) ?_
     obtain rfl := Option.some.inj h
     have e_1 := hb_11 _ rfl
     subst e_1
     obtain rfl := Aft.bk hk_11
     exact AW.ret (hR_0 _ (retX (.cons (.tmp rfl) (.cons (.tmp rfl) .nil)) (.refl _) rfl (by kernel_rfl) (by kernel_rfl)))
    ·have h := ifF hb_18 h
     refine AW.skip ?_
     refine hK_14 _ ?_
     refine AW.ra fokW [] ⟨[(1, .d (I along)), (6, .ptr 6 0), (19, .d (I (wr (v + 1))))], [(6, .var 83 (bkV r0B6 r0T6 r0L6 (.map 5))), (5, .mp (List.map m94_34 m4_1))], 12, Fr.emp, [], 0⟩ (by kernel_rfl) ?_
     obtain rfl := Option.some.inj h
     have ew : wr (v + 1) = v + 1 := inext (N := 100) (by omega) (by omega) (by omega)
     rw [ew]
     exact hK_11 _ _ rfl (Can.kp (by kernel_rfl))
   ·subst hout
    have h := Aft.nx hk_11
    refine AW.sa fokW [] ⟨[(1, .d (I along)), (6, .ptr 6 0), (19, .d (I v)), (20, .d (.bool (decide (v < 100))))], [(6, .var 83 (bkV r0B6 r0T6 r0L6 (.map 5))), (5, .mp (List.map m94_34 m4_1))], 7, Fr.emp, [], 0⟩ (by kernel_rfl) ?_
    refine AW.seqK (fun K_19 hK_19 => ?_)
    refine AW.cond rfl (fun hb_20 => False.elim (by have := of_decide_eq_true hb_20; omega)) (fun hb_20 => ?_)
    refine AW.exit ?_
    refine hK_10 _ ?_
    refine AW.sa fokW [] ⟨[(4, .d (I 0)), (5, .d (I 4))], [], 7, Fr.emp, [], 0⟩ (by kernel_rfl) ?_
    obtain rfl := Option.some.inj h
    exact AW.ret (hR_0 _ (retX (.cons (.tmp rfl) (.cons (.tmp rfl) .nil)) (.refl _) rfl (by kernel_rfl) (by kernel_rfl)))
def g60 (top : Int) (bottom : Int) : Option StandRatio := some (StandRatio.mk top bottom)
theorem k60 (top : Int) (bottom : Int) (r : StandRatio) (h : g60 top bottom = some r) : SCall Tryd.prog Gs 60 [.d (I top), .d (I bottom)] [] 0 Fr.emp (.agg [.d (I r.Top), .d (I r.Bottom)]) [] 0 Fr.emp := by
 unfold g60 at h
 refine SCall.mkK Tryd.func60 c60 rfl rfl (by kernel_rfl) (fun Q_0 hR_0 hN_0 => ?_)
 refine AW.sa fokW [] ⟨[(0, .d (I top)), (1, .d (I bottom)), (4, .ptr 0 0)], [(0, .var 34 [.d (I 0), .d (I 0)])], 1, Fr.emp, [], 0⟩ (by kernel_rfl) ?_
 refine AW.sa fokW [] ⟨[(4, .ptr 0 0)], [(0, .var 34 [.d (I top), .d (I bottom)])], 1, Fr.emp, [], 0⟩ (by kernel_rfl) ?_
 obtain rfl := Option.some.inj h
 exact AW.ret (hR_0 _ (retX (.cons (.agg rfl rfl (Nat.le_of_ble_eq_true rfl)) .nil) (.refl _) rfl (by kernel_rfl) (by kernel_rfl)))
end Go.Proofs.Tz
namespace Go.Proofs.Tz
open Go Go.Abs Go.Proofs
def g33_10 (r0B6 : StandBook) (r0T6 : (List (Nat → Int))) (r0L6 : Stand_load) : Int → Unit → Option (Ctl (Unit) (Int × Int)) := fun v _ => (g80 r0B6 r0T6 r0L6 (Stand_load.mk 0 0 0) v).bind fun (r0B, r0T, r0L, m4) => (g81a r0B r0T r0L m4).bind fun (r0_2, m0_2) => bif r0_2 then (some (.brk (v, 0))) else (some (.next ()))
def g33 (x : StandBook) : Option (Int × Int) := (g67 x true).bind fun r_19 => match r_19 with | .next (r0B5, r0T5, r0L5, r1_2) => (must (decide (r1_2 ≠ 0))).bind fun _ => some (0, r1_2) | .brk (r0B6, r0T6, r0L6, r1_3, m4_1) => bif (decide (r1_3 ≠ 0)) then (some (0, r1_3)) else (bindC (forC (g33_10 r0B6 r0T6 r0L6) (((21 : Int) - 0).toNat) 0 ()) fun _ => some (0, 4))
theorem k33 (x : StandBook) (r : Int × Int) (h : g33 x = some r) : SCall Tryd.prog Gs 33 [.agg (cv25 x)] [] 0 Fr.emp (match r with | (r0_4, r1_5) => .tup [.d (I r0_4), .d (I r1_5)]) [] 0 Fr.emp := by
 unfold g33 at h
 refine SCall.mkK Tryd.func33 c33 rfl rfl (by kernel_rfl) (fun Q_0 hR_0 hN_0 => ?_)
 refine AW.sa fokW [] ⟨[(1, .ptr 0 0)], [(0, .var 25 (cv25 x))], 1, Fr.emp, [], 0⟩ (by kernel_rfl) ?_
 refine AW.srwK (fun Q_1 hQ_1 => ?_)
 refine RW.au fokW 1 [] ⟨[(8, .agg (cv25 x))], [], 1, Fr.emp, [], 0⟩ (by kernel_rfl) ?_
 obtain ⟨r_19, hx_2, h⟩ := bsome h
 rcases r_19 with (⟨r0B5, r0T5, r0L5, r1_2⟩ | (⟨r0B6, r0T6, r0L6, r1_3, m4_1⟩))
 ·refine RW.one fokW (r_callS (zr := []) [] trivial rfl (k67 x true _ hx_2) trivial rfl rfl ⟨.refl _, .refl _, trivial⟩ rfl rfl rfl (r_end ?_))
  obtain ⟨_, hv_3, h⟩ := bsome h
  have hf_4 := must_ok hv_3
  refine RW.au fokW 6 [] ⟨[(4, .ptr 1 0), (5, .d (I r1_2))], [(1, .var 83 (bkV r0B5 r0T5 r0L5 (.d (.nilMap))))], 2, Fr.emp, [], 0⟩ (by kernel_rfl) ?_
  refine RW.nil ?_
  refine hQ_1 _ ?_
  refine AW.seqK (fun K_5 hK_5 => ?_)
  refine AW.sa fokW [] ⟨[(4, .ptr 1 0), (5, .d (I r1_2)), (13, .d (.bool (decide (r1_2 ≠ 0))))], [(1, .var 83 (bkV r0B5 r0T5 r0L5 (.d (.nilMap))))], 2, Fr.emp, [], 0⟩ (by kernel_rfl) ?_
  refine AW.cond rfl (fun hb_6 => ?_) (fun hb_6 => False.elim (by rw [hf_4] at hb_6; cases hb_6))
  refine AW.sa fokW [] ⟨[(2, .d (I 0)), (3, .d (I r1_2))], [], 2, Fr.emp, [], 0⟩ (by kernel_rfl) ?_
  obtain rfl := Option.some.inj h
  exact AW.ret (hR_0 _ (retX (.cons (.tmp rfl) (.cons (.tmp rfl) .nil)) (.refl _) rfl (by kernel_rfl) (by kernel_rfl)))
 ·refine RW.one fokW (r_callS (zr := []) [] trivial rfl (k67 x true _ hx_2) trivial rfl rfl ⟨.refl _, .refl _, trivial⟩ rfl rfl rfl (r_end ?_))
  refine RW.au fokW 6 [] ⟨[(4, .ptr 6 0), (5, .d (I r1_3))], [(6, .var 83 (bkV r0B6 r0T6 r0L6 (.map 5))), (5, .mp (List.map m94_34 m4_1))], 7, Fr.emp, [], 0⟩ (by kernel_rfl) ?_
  refine RW.nil ?_
  refine hQ_1 _ ?_
  refine AW.seqK (fun K_7 hK_7 => ?_)
  refine AW.sa fokW [] ⟨[(4, .ptr 6 0), (5, .d (I r1_3)), (13, .d (.bool (decide (r1_3 ≠ 0))))], [(6, .var 83 (bkV r0B6 r0T6 r0L6 (.map 5))), (5, .mp (List.map m94_34 m4_1))], 7, Fr.emp, [], 0⟩ (by kernel_rfl) ?_
  refine AW.cond rfl (fun hb_8 => ?_) (fun hb_8 => ?_)
  ·have h := ifT hb_8 h
   refine AW.sa fokW [] ⟨[(2, .d (I 0)), (3, .d (I r1_3))], [], 7, Fr.emp, [], 0⟩ (by kernel_rfl) ?_
   obtain rfl := Option.some.inj h
   exact AW.ret (hR_0 _ (retX (.cons (.tmp rfl) (.cons (.tmp rfl) .nil)) (.refl _) rfl (by kernel_rfl) (by kernel_rfl)))
  ·have h := ifF hb_8 h
   refine AW.skip ?_
   refine hK_7 _ ?_
   refine AW.seqK (fun K_9 hK_9 => ?_)
   refine AW.sa fokW [] ⟨[(4, .ptr 6 0), (15, .d (I 0))], [(6, .var 83 (bkV r0B6 r0T6 r0L6 (.map 5))), (5, .mp (List.map m94_34 m4_1))], 7, Fr.emp, [], 0⟩ (by kernel_rfl) ?_
   refine AW.block ?_
   have hN_10 : (21 : Int) ≤ 9223372036854775807 := by decide
   obtain ⟨out_10, hx_10, hk_10⟩ := bsomeC h
   refine AW.lpCK (fun (v : Int) (_ : Unit) => ⟨[(4, .ptr 6 0), (15, .d (I v))], [(6, .var 83 (bkV r0B6 r0T6 r0L6 (.map 5))), (5, .mp (List.map m94_34 m4_1))], 7, Fr.emp, [], 0⟩) (g33_10 r0B6 r0T6 r0L6) (21) hx_10 (Can.kp (by kernel_rfl)) (fun v s_10 hi_10 hl_10 c_10 h hb_10 K_10 hK_10 => ?_) (fun v s_10 hi_10 hl_10 hout => ?_)
   ·unfold g33_10 at h
    refine AW.sa fokW [] ⟨[(4, .ptr 6 0), (15, .d (I v)), (16, .d (.bool (decide (v < 21))))], [(6, .var 83 (bkV r0B6 r0T6 r0L6 (.map 5))), (5, .mp (List.map m94_34 m4_1))], 7, Fr.emp, [], 0⟩ (by kernel_rfl) ?_
    refine AW.seqK (fun K_11 hK_11 => ?_)
    refine AW.cond rfl (fun hb_12 => ?_) (fun hb_12 => False.elim (by have := of_decide_eq_false hb_12; omega))
    refine AW.skip ?_
    refine hK_11 _ ?_
    refine AW.seqK (fun K_13 hK_13 => ?_)
    refine AW.block ?_
    refine AW.sa fokW [] ⟨[(4, .ptr 6 0), (6, .d (I v)), (15, .d (I v))], [(6, .var 83 (bkV r0B6 r0T6 r0L6 (.map 5))), (5, .mp (List.map m94_34 m4_1))], 7, Fr.emp, [], 0⟩ (by kernel_rfl) ?_
    refine AW.srwK (fun Q_14 hQ_14 => ?_)
    refine RW.au fokW 3 [] ⟨[(4, .ptr 6 0), (6, .d (I v)), (15, .d (I v)), (18, .agg [.d (I r0B6.Kind), .d (I r0B6.Front), .d (I r0B6.Back), .d (I r0B6.Radius), .d (.sl 4 (List.map e70 r0B6.Parts)), .d (I r0B6.Along), .d (I r0B6.High), .d (I r0B6.Lean_), .d (I r0B6.Limit), .d (.sl 3 (List.map e65 r0B6.Trials)), .d (.sl 4 (List.map e92 r0T6)), .d (I r0L6.weight), .d (I r0L6.along), .d (I r0L6.high), .map 5]), (19, .agg [.d (I 0), .d (I 0), .d (I 0)]), (20, .d (I v))], [(6, .var 83 (bkV r0B6 r0T6 r0L6 (.map 5))), (5, .mp (List.map m94_34 m4_1))], 7, Fr.emp, [], 0⟩ (by kernel_rfl) ?_
    obtain ⟨⟨r0B, r0T, r0L, m4⟩, hx_15, h⟩ := bsome h
    refine RW.one fokW (r_callS (zr := []) [] trivial rfl (k80 r0B6 r0T6 r0L6 (Stand_load.mk 0 0 0) v _ hx_15) trivial rfl rfl ⟨(Frz.agg_of ⟨.refl _, .refl _, .refl _, .refl _, .refl _, .refl _, .refl _, .refl _, .refl _, .refl _, .refl _, .refl _, .refl _, .refl _, (.opq rfl (by intro _ h; cases h)), trivial⟩), .refl _, .refl _, trivial⟩ rfl rfl rfl (r_end ?_))
    obtain ⟨⟨r0_2, m0_2⟩, hx_16, h⟩ := bsome h
    refine RW.one fokW (r_callS (zr := []) [11] trivial rfl (k81a r0B r0T r0L m4 _ hx_16) ⟨rfl, trivial⟩ rfl rfl ⟨.refl _, trivial⟩ rfl rfl rfl (r_end ?_))
    refine RW.nil ?_
    refine hQ_14 _ ?_
    refine AW.cond rfl (fun hb_17 => ?_) (fun hb_17 => ?_)
    ·have h := ifT hb_17 h
     refine AW.sa fokW [] ⟨[(2, .d (I v)), (3, .d (I 0))], [], 12, Fr.emp, [], 0⟩ (by kernel_rfl) ?_
     obtain rfl := Option.some.inj h
     have e_1 := hb_10 _ rfl
     subst e_1
     obtain rfl := Aft.bk hk_10
     exact AW.ret (hR_0 _ (retX (.cons (.tmp rfl) (.cons (.tmp rfl) .nil)) (.refl _) rfl (by kernel_rfl) (by kernel_rfl)))
    ·have h := ifF hb_17 h
     refine AW.skip ?_
     refine hK_13 _ ?_
     refine AW.ra fokW [] ⟨[(4, .ptr 6 0), (15, .d (I (wr (v + 1))))], [(6, .var 83 (bkV r0B6 r0T6 r0L6 (.map 5))), (5, .mp (List.map m94_34 m4_1))], 12, Fr.emp, [], 0⟩ (by kernel_rfl) ?_
     obtain rfl := Option.some.inj h
     have ew : wr (v + 1) = v + 1 := inext (N := 21) (by omega) (by omega) (by omega)
     rw [ew]
     exact hK_10 _ _ rfl (Can.kp (by kernel_rfl))
   ·subst hout
    have h := Aft.nx hk_10
    refine AW.sa fokW [] ⟨[(4, .ptr 6 0), (15, .d (I v)), (16, .d (.bool (decide (v < 21))))], [(6, .var 83 (bkV r0B6 r0T6 r0L6 (.map 5))), (5, .mp (List.map m94_34 m4_1))], 7, Fr.emp, [], 0⟩ (by kernel_rfl) ?_
    refine AW.seqK (fun K_18 hK_18 => ?_)
    refine AW.cond rfl (fun hb_19 => False.elim (by have := of_decide_eq_true hb_19; omega)) (fun hb_19 => ?_)
    refine AW.exit ?_
    refine hK_9 _ ?_
    refine AW.sa fokW [] ⟨[(2, .d (I 0)), (3, .d (I 4))], [], 7, Fr.emp, [], 0⟩ (by kernel_rfl) ?_
    obtain rfl := Option.some.inj h
    exact AW.ret (hR_0 _ (retX (.cons (.tmp rfl) (.cons (.tmp rfl) .nil)) (.refl _) rfl (by kernel_rfl) (by kernel_rfl)))
def g58  : Option StandBook := (g47 21 (-8) false).bind fun r0 => (g47 20 (-8) true).bind fun r0_1 => (g57 [r0, r0_1]).bind fun r0_2 => some r0_2
theorem k58  (r : StandBook) (h : g58 = some r) : SCall Tryd.prog Gs 58 [] [] 0 Fr.emp (.agg (cv25 r)) [] 0 Fr.emp := by
 unfold g58 at h
 refine SCall.mkK Tryd.func58 c58 rfl rfl (by kernel_rfl) (fun Q_0 hR_0 hN_0 => ?_)
 refine AW.sa fokW [] ⟨[(0, .ptr 0 0)], [(0, .var 25 [.d (I 0), .d (I 0), .d (I 0), .d (I 0), .d (.nilSl), .d (I 0), .d (I 0), .d (I 0), .d (I 0), .d (.nilSl)])], 1, Fr.emp, [], 0⟩ (by kernel_rfl) ?_
 refine AW.srwK (fun Q_1 hQ_1 => ?_)
 obtain ⟨r0, hx_2, h⟩ := bsome h
 refine RW.one fokW (r_call trivial rfl (k47 21 (-8) false _ hx_2) rfl rfl (r_end ?_))
 obtain ⟨r0_1, hx_3, h⟩ := bsome h
 refine RW.one fokW (r_call trivial rfl (k47 20 (-8) true _ hx_3) rfl rfl (r_end ?_))
 refine RW.au fokW 1 [] ⟨[(0, .ptr 0 0), (3, .own 1 (List.map e65 [r0, r0_1]).length)], [(1, .row 65 3 (List.map e65 [r0, r0_1])), (0, .var 25 [.d (I 0), .d (I 0), .d (I 0), .d (I 0), .d (.nilSl), .d (I 0), .d (I 0), .d (I 0), .d (I 0), .d (.nilSl)])], 2, Fr.emp, [], 0⟩ (by kernel_rfl) ?_
 obtain ⟨r0_2, hx_4, h⟩ := bsome h
 refine RW.one fokW (r_callZ (zr := [(1, .row 65 3 (List.map e65 [r0, r0_1]))]) trivial rfl (k57 [r0, r0_1] _ hx_4) ⟨rfl, trivial⟩ ⟨(.own rfl rfl), trivial⟩ rfl rfl rfl rfl (r_end ?_))
 refine RW.au fokW 1 [] ⟨[(0, .ptr 0 0)], [(0, .var 25 (cv25 r0_2))], 2, Fr.emp, [], 0⟩ (by kernel_rfl) ?_
 refine RW.nil ?_
 refine hQ_1 _ ?_
 obtain rfl := Option.some.inj h
 exact AW.ret (hR_0 _ (retX (.cons (.agg rfl rfl (Nat.le_of_ble_eq_true rfl)) .nil) (.refl _) rfl (by kernel_rfl) (by kernel_rfl)))
def g84a (bB : StandBook) (bT : (List (Nat → Int))) (bL : Stand_load) : Option (StandBook × (List (Nat → Int)) × Stand_load) := some (bB, bT, bL)
theorem k84a (bB : StandBook) (bT : (List (Nat → Int))) (bL : Stand_load) (r : StandBook × (List (Nat → Int)) × Stand_load) (h : g84a bB bT bL = some r) : SCall Tryd.prog Gs 84 [.agg [.d (I bB.Kind), .d (I bB.Front), .d (I bB.Back), .d (I bB.Radius), .d (.sl 4 (List.map e70 bB.Parts)), .d (I bB.Along), .d (I bB.High), .d (I bB.Lean_), .d (I bB.Limit), .d (.sl 3 (List.map e65 bB.Trials)), .d (.sl 4 (List.map e92 bT)), .d (I bL.weight), .d (I bL.along), .d (I bL.high), .d (.nilMap)]] [] 0 Fr.emp (match r with | (o0B, o0T, o0L) => .clo 98 [] [.ptr 0 0]) (match r with | (o0B, o0T, o0L) => [(0, .var 83 (bkV o0B o0T o0L (.d (.nilMap))))]) 1 Fr.emp := by
 unfold g84a at h
 refine SCall.mkK Tryd.func84 c84 rfl rfl (by kernel_rfl) (fun Q_0 hR_0 hN_0 => ?_)
 refine AW.sa fokW [] ⟨[(1, .ptr 0 0)], [(0, .var 83 (bkV bB bT bL (.d (.nilMap))))], 1, Fr.emp, [], 0⟩ (by kernel_rfl) ?_
 refine AW.sa fokW [] ⟨[(2, .clo 98 [] [.ptr 0 0])], [(0, .var 83 (bkV bB bT bL (.d (.nilMap))))], 1, Fr.emp, [], 0⟩ (by kernel_rfl) ?_
 obtain rfl := Option.some.inj h
 exact AW.ret (hR_0 _ (retX (.cons (.tmp rfl) .nil) (.refl _) rfl (by kernel_rfl) (by kernel_rfl)))
def g99a_12 {S_ : Type} (rec_ : (Nat → Int) → Int → StandBook → (List (Nat → Int)) → Stand_load → S_ → Option (Bool × S_)) (part : Int) (o0B : StandBook) (o0T : (List (Nat → Int))) (o0L : Stand_load) (p : StandPart) : Int → (S_ × (Nat → Int)) → Option (Ctl (S_ × (Nat → Int)) (Ctl (S_) (Ctl (S_) (Bool × S_)))) := fun v (s_4, w1) => (ixN 4 part).bind fun j => (rec_ (aset w1 j (wr (p.Weight.Low + v))) (wr (part + 1)) o0B o0T o0L s_4).bind fun (r0_5_1, s_8_1) => bif (!r0_5_1) then (some (.brk (.brk (.brk (false, s_8_1))))) else (some (.next (s_8_1, (aset w1 j (wr (p.Weight.Low + v))))))
def g99a {S_ : Type} (c_ : (Nat → Int) → S_ → Option (S_ × Bool)) : Nat → (Nat → Int) → Int → StandBook → (List (Nat → Int)) → Stand_load → S_ → Option (Bool × S_)
 | 0, _, _, _, _, _, _ => none
 | n_ + 1, w, part, o0B, o0T, o0L, s_ => bif (decide (part = (o0B.Parts.length : Int))) then ((g100).bind fun r0 => bif (false != (((w 0) == (r0 0)) && (((w 1) == (r0 1)) && (((w 2) == (r0 2)) && (((w 3) == (r0 3)) && true))))) then (some (true, s_)) else ((c_ w s_).bind fun (s_1, go) => some (go, s_1))) else ((ixL o0B.Parts part).bind fun p => bindC (bindC (bindC (forC (g99a_12 (g99a c_ n_) part o0B o0T o0L p) ((((wr ((wr (p.Weight.High - p.Weight.Low)) + 1)) : Int) - 0).toNat) 0 (s_, w)) fun (s_4, w1) => some (.next s_4) : Option (Ctl (S_) (Ctl (S_) (Bool × S_)))) fun s_3 => some (.next s_3) : Option (Ctl (S_) (Bool × S_))) fun s_2 => some (true, s_2))
theorem k99a {S_ : Type} (fr_ : S_ → Fr) (c_ : (Nat → Int) → S_ → Option (S_ × Bool)) (hc_ : ∀ (a0 : (Nat → Int)) s s2 b, c_ a0 s = some (s2, b) → YCall Tryd.prog Gs (fr_ s) [.agg [.d (I (a0 0)), .d (I (a0 1)), .d (I (a0 2)), .d (I (a0 3))]] (.d (.bool b)) (fr_ s2)) : ∀ (n_ : Nat) (w : (Nat → Int)) (part : Int) (o0B : StandBook) (o0T : (List (Nat → Int))) (o0L : Stand_load) (s_ : S_) (r : Bool × S_) (h : g99a c_ n_ w part o0B o0T o0L s_ = some r), SCall Tryd.prog Gs 99 [.agg [.d (I (w 0)), .d (I (w 1)), .d (I (w 2)), .d (I (w 3))], .d (I part), .ptr 0 0, .ptr 1 0, .ptr 2 0] [(0, .var 83 (bkV o0B o0T o0L (.d (.nilMap)))), (1, .var 126 [.yld]), (2, .var 127 [.clo 99 [] [.ptr 0 0, .ptr 1 0, .ptr 2 0]])] 3 (fr_ s_) (match r with | (r0_5, s_8) => .d (.bool r0_5)) (match r with | (r0_5, s_8) => [(0, .var 83 (bkV o0B o0T o0L (.d (.nilMap)))), (1, .var 126 [.yld]), (2, .var 127 [.clo 99 [] [.ptr 0 0, .ptr 1 0, .ptr 2 0]])]) 3 (fr_ (match r with | (r0_5, s_8) => s_8)) := by
 intro n_
 induction n_ with
 | zero => intro w part o0B o0T o0L s_ r h; cases h
 | succ n_ ih =>
  intro w part o0B o0T o0L s_ r h
  rw [g99a] at h
  refine SCall.mkK Tryd.func99 c99 rfl rfl (by kernel_rfl) (fun Q_0 hR_0 hN_0 => ?_)
  refine AW.sa fokW [] ⟨[(1, .d (I part)), (2, .ptr 0 0), (3, .ptr 1 0), (4, .ptr 2 0), (5, .ptr 3 0)], [(3, .var 92 [.d (I (w 0)), .d (I (w 1)), .d (I (w 2)), .d (I (w 3))]), (0, .var 83 (bkV o0B o0T o0L (.d (.nilMap)))), (1, .var 126 [.yld]), (2, .var 127 [.clo 99 [] [.ptr 0 0, .ptr 1 0, .ptr 2 0]])], 4, (fr_ s_), [], 3⟩ (by kernel_rfl) ?_
  refine AW.seqK (fun K_1 hK_1 => ?_)
  refine AW.srwK (fun Q_2 hQ_2 => ?_)
  refine RW.au fokW 4 [] ⟨[(1, .d (I part)), (2, .ptr 0 0), (3, .ptr 1 0), (4, .ptr 2 0), (5, .ptr 3 0), (10, .d (I part)), (13, .d (.sl 4 (List.map e70 o0B.Parts)))], [(3, .var 92 [.d (I (w 0)), .d (I (w 1)), .d (I (w 2)), .d (I (w 3))]), (0, .var 83 (bkV o0B o0T o0L (.d (.nilMap)))), (1, .var 126 [.yld]), (2, .var 127 [.clo 99 [] [.ptr 0 0, .ptr 1 0, .ptr 2 0]])], 4, (fr_ s_), [], 3⟩ (by kernel_rfl) ?_
  refine RW.one fokW (r_lenX trivial rfl lenm (r_end ?_))
  refine RW.au fokW 1 [] ⟨[(1, .d (I part)), (2, .ptr 0 0), (3, .ptr 1 0), (4, .ptr 2 0), (5, .ptr 3 0), (15, .d (.bool (decide (part = (o0B.Parts.length : Int)))))], [(3, .var 92 [.d (I (w 0)), .d (I (w 1)), .d (I (w 2)), .d (I (w 3))]), (0, .var 83 (bkV o0B o0T o0L (.d (.nilMap)))), (1, .var 126 [.yld]), (2, .var 127 [.clo 99 [] [.ptr 0 0, .ptr 1 0, .ptr 2 0]])], 4, (fr_ s_), [], 3⟩ (by kernel_rfl) ?_
  refine RW.nil ?_
  refine hQ_2 _ ?_
  refine AW.cond rfl (fun hb_3 => ?_) (fun hb_3 => ?_)
  ·have h := ifT hb_3 h
   refine AW.sdrwK fokW (fun Q_4 hQ_4 => ?_)
   refine RunC.auX 1 ⟨[(3, .ptr 1 0), (5, .ptr 3 0), (16, .agg [.d (I (w 0)), .d (I (w 1)), .d (I (w 2)), .d (I (w 3))])], [(3, .var 92 [.d (I (w 0)), .d (I (w 1)), .d (I (w 2)), .d (I (w 3))]), (0, .var 83 (bkV o0B o0T o0L (.d (.nilMap)))), (1, .var 126 [.yld]), (2, .var 127 [.clo 99 [] [.ptr 0 0, .ptr 1 0, .ptr 2 0]])], 4, (fr_ s_), [], 3⟩ (by kernel_rfl) ?_
   obtain ⟨r0, hx_5, h⟩ := bsome h
   refine r_call trivial rfl (k100 _ hx_5) rfl rfl ?_
   refine r_aeq trivial rfl rfl rfl rfl ft92 rfl rfl rfl ?_
   refine RunC.auX 1 ⟨[(3, .ptr 1 0), (5, .ptr 3 0), (19, .d (.bool (false != (((w 0) == (r0 0)) && (((w 1) == (r0 1)) && (((w 2) == (r0 2)) && (((w 3) == (r0 3)) && true)))))))], [(3, .var 92 [.d (I (w 0)), .d (I (w 1)), .d (I (w 2)), .d (I (w 3))]), (0, .var 83 (bkV o0B o0T o0L (.d (.nilMap)))), (1, .var 126 [.yld]), (2, .var 127 [.clo 99 [] [.ptr 0 0, .ptr 1 0, .ptr 2 0]])], 4, (fr_ s_), [], 3⟩ (by kernel_rfl) ?_
   refine r_split 19 rfl (fun hb_6 => ?_) (fun hb_6 => ?_)
   ·have h := ifT hb_6 h
    refine RunC.auX 5 ⟨[(7, .d (.bool true))], [(3, .var 92 [.d (I (w 0)), .d (I (w 1)), .d (I (w 2)), .d (I (w 3))]), (0, .var 83 (bkV o0B o0T o0L (.d (.nilMap)))), (1, .var 126 [.yld]), (2, .var 127 [.clo 99 [] [.ptr 0 0, .ptr 1 0, .ptr 2 0]])], 4, (fr_ s_), [], 3⟩ (by kernel_rfl) ?_
    refine RunC.fin ⟨[(7, .d (.bool true))], [(0, .var 83 (bkV o0B o0T o0L (.d (.nilMap)))), (1, .var 126 [.yld]), (2, .var 127 [.clo 99 [] [.ptr 0 0, .ptr 1 0, .ptr 2 0]])], 4, (fr_ s_), [], 3⟩ (by kernel_rfl) (by kernel_rfl) ?_
    refine hQ_4 _ ?_
    obtain rfl := Option.some.inj h
    exact AW.ret (hR_0 _ (retX (.cons (.tmp rfl) .nil) (.refl _) rfl (by kernel_rfl) (by kernel_rfl)))
   ·have h := ifF hb_6 h
    refine RunC.auX 2 ⟨[(19, .d (.bool false)), (20, .yld), (21, .agg [.d (I (w 0)), .d (I (w 1)), .d (I (w 2)), .d (I (w 3))])], [(3, .var 92 [.d (I (w 0)), .d (I (w 1)), .d (I (w 2)), .d (I (w 3))]), (0, .var 83 (bkV o0B o0T o0L (.d (.nilMap)))), (1, .var 126 [.yld]), (2, .var 127 [.clo 99 [] [.ptr 0 0, .ptr 1 0, .ptr 2 0]])], 4, (fr_ s_), [], 3⟩ (by kernel_rfl) ?_
    obtain ⟨⟨s_1, go⟩, hx_7, h⟩ := bsome h
    refine r_yield (zr := []) rfl rfl rfl (hc_ w _ _ _ hx_7) trivial ⟨.refl _, trivial⟩ rfl rfl rfl rfl ?_
    refine RunC.auX 2 ⟨[(7, .d (.bool go))], [(3, .var 92 [.d (I (w 0)), .d (I (w 1)), .d (I (w 2)), .d (I (w 3))]), (0, .var 83 (bkV o0B o0T o0L (.d (.nilMap)))), (1, .var 126 [.yld]), (2, .var 127 [.clo 99 [] [.ptr 0 0, .ptr 1 0, .ptr 2 0]])], 4, (fr_ s_1), [], 3⟩ (by kernel_rfl) ?_
    refine RunC.fin ⟨[(7, .d (.bool go))], [(0, .var 83 (bkV o0B o0T o0L (.d (.nilMap)))), (1, .var 126 [.yld]), (2, .var 127 [.clo 99 [] [.ptr 0 0, .ptr 1 0, .ptr 2 0]])], 4, (fr_ s_1), [], 3⟩ (by kernel_rfl) (by kernel_rfl) ?_
    refine hQ_4 _ ?_
    obtain rfl := Option.some.inj h
    exact AW.ret (hR_0 _ (retX (.cons (.tmp rfl) .nil) (.refl _) rfl (by kernel_rfl) (by kernel_rfl)))
  ·have h := ifF hb_3 h
   refine AW.skip ?_
   refine hK_1 _ ?_
   refine AW.srwK (fun Q_8 hQ_8 => ?_)
   refine RW.au fokW 4 [] ⟨[(1, .d (I part)), (4, .ptr 2 0), (5, .ptr 3 0), (26, .d (.sl 4 (List.map e70 o0B.Parts))), (27, .d (I part))], [(3, .var 92 [.d (I (w 0)), .d (I (w 1)), .d (I (w 2)), .d (I (w 3))]), (0, .var 83 (bkV o0B o0T o0L (.d (.nilMap)))), (1, .var 126 [.yld]), (2, .var 127 [.clo 99 [] [.ptr 0 0, .ptr 1 0, .ptr 2 0]])], 4, (fr_ s_), [], 3⟩ (by kernel_rfl) ?_
   obtain ⟨p, hv_9, h⟩ := bsome h
   refine RW.one fokW (r_iaD trivial rfl rfl (ixL_ok hv_9).1 (row := e70 p) (mapget (ixL_ok hv_9).2) (r_end ?_))
   refine RW.au fokW 4 [] ⟨[(1, .d (I part)), (4, .ptr 2 0), (5, .ptr 3 0), (8, .ptr 4 0)], [(4, .var 42 [.d (I p.Weight.Low), .d (I p.Weight.High)]), (3, .var 92 [.d (I (w 0)), .d (I (w 1)), .d (I (w 2)), .d (I (w 3))]), (0, .var 83 (bkV o0B o0T o0L (.d (.nilMap)))), (1, .var 126 [.yld]), (2, .var 127 [.clo 99 [] [.ptr 0 0, .ptr 1 0, .ptr 2 0]])], 5, (fr_ s_), [], 3⟩ (by kernel_rfl) ?_
   refine RW.nil ?_
   refine hQ_8 _ ?_
   obtain ⟨c_10, hx_10, hk_10⟩ := bsomeC h
   refine AW.jnK (fun (s_2 : S_) => ⟨[], [(0, .var 83 (bkV o0B o0T o0L (.d (.nilMap)))), (1, .var 126 [.yld]), (2, .var 127 [.clo 99 [] [.ptr 0 0, .ptr 1 0, .ptr 2 0]])], 3, (fr_ s_2), [], 3⟩) (c := c_10) (fun K_10 hK_10 => ?_) (fun s_2 hj_10 => ?_)
   ·have h := hx_10
    refine AW.sa fokW [] ⟨[(1, .d (I part)), (4, .ptr 2 0), (5, .ptr 3 0), (8, .ptr 4 0), (36, .d (I (wr ((wr (p.Weight.High - p.Weight.Low)) + 1)))), (37, .d (I 0))], [(4, .var 42 [.d (I p.Weight.Low), .d (I p.Weight.High)]), (3, .var 92 [.d (I (w 0)), .d (I (w 1)), .d (I (w 2)), .d (I (w 3))]), (0, .var 83 (bkV o0B o0T o0L (.d (.nilMap)))), (1, .var 126 [.yld]), (2, .var 127 [.clo 99 [] [.ptr 0 0, .ptr 1 0, .ptr 2 0]])], 5, (fr_ s_), [], 3⟩ (by kernel_rfl) ?_
    obtain ⟨c_11, hx_11, hk_11⟩ := bsomeC h
    refine AW.jqK (fun (s_3 : S_) => ⟨[], [(0, .var 83 (bkV o0B o0T o0L (.d (.nilMap)))), (1, .var 126 [.yld]), (2, .var 127 [.clo 99 [] [.ptr 0 0, .ptr 1 0, .ptr 2 0]])], 3, (fr_ s_3), [], 3⟩) (c := c_11) (fun K_11 hK_11 => ?_) (fun s_3 hj_11 => ?_)
    ·have h := hx_11
     refine AW.block ?_
     have hN_12 : (wr ((wr (p.Weight.High - p.Weight.Low)) + 1)) ≤ 9223372036854775807 := (wr_range _).2
     obtain ⟨out_12, hx_12, hk_12⟩ := bsomeC h
     refine AW.lpCK (fun (v : Int) (⟨s_4, w1⟩ : S_ × (Nat → Int)) => ⟨[(1, .d (I part)), (4, .ptr 2 0), (5, .ptr 3 0), (8, .ptr 4 0), (36, .d (I (wr ((wr (p.Weight.High - p.Weight.Low)) + 1)))), (37, .d (I v))], [(4, .var 42 [.d (I p.Weight.Low), .d (I p.Weight.High)]), (3, .var 92 [.d (I (w1 0)), .d (I (w1 1)), .d (I (w1 2)), .d (I (w1 3))]), (0, .var 83 (bkV o0B o0T o0L (.d (.nilMap)))), (1, .var 126 [.yld]), (2, .var 127 [.clo 99 [] [.ptr 0 0, .ptr 1 0, .ptr 2 0]])], 5, (fr_ s_4), [], 3⟩) (g99a_12 (g99a c_ n_) part o0B o0T o0L p) ((wr ((wr (p.Weight.High - p.Weight.Low)) + 1))) hx_12 (Can.kp (by kernel_rfl)) (fun v s_12 hi_12 hl_12 c_12 h hb_12 K_12 hK_12 => ?_) (fun v s_12 hi_12 hl_12 hout => ?_)
     ·obtain ⟨s_4, w1⟩ := s_12
      unfold g99a_12 at h
      refine AW.sa fokW [] ⟨[(1, .d (I part)), (4, .ptr 2 0), (5, .ptr 3 0), (8, .ptr 4 0), (36, .d (I (wr ((wr (p.Weight.High - p.Weight.Low)) + 1)))), (37, .d (I v)), (38, .d (.bool (decide (v < (wr ((wr (p.Weight.High - p.Weight.Low)) + 1))))))], [(4, .var 42 [.d (I p.Weight.Low), .d (I p.Weight.High)]), (3, .var 92 [.d (I (w1 0)), .d (I (w1 1)), .d (I (w1 2)), .d (I (w1 3))]), (0, .var 83 (bkV o0B o0T o0L (.d (.nilMap)))), (1, .var 126 [.yld]), (2, .var 127 [.clo 99 [] [.ptr 0 0, .ptr 1 0, .ptr 2 0]])], 5, (fr_ s_4), [], 3⟩ (by kernel_rfl) ?_
      refine AW.seqK (fun K_13 hK_13 => ?_)
      refine AW.cond rfl (fun hb_14 => ?_) (fun hb_14 => False.elim (by have := of_decide_eq_false hb_14; omega))
      refine AW.skip ?_
      refine hK_13 _ ?_
      refine AW.seqK (fun K_15 hK_15 => ?_)
      refine AW.block ?_
      refine AW.sa fokW [] ⟨[(1, .d (I part)), (4, .ptr 2 0), (5, .ptr 3 0), (8, .ptr 4 0), (9, .d (I v)), (36, .d (I (wr ((wr (p.Weight.High - p.Weight.Low)) + 1)))), (37, .d (I v))], [(4, .var 42 [.d (I p.Weight.Low), .d (I p.Weight.High)]), (3, .var 92 [.d (I (w1 0)), .d (I (w1 1)), .d (I (w1 2)), .d (I (w1 3))]), (0, .var 83 (bkV o0B o0T o0L (.d (.nilMap)))), (1, .var 126 [.yld]), (2, .var 127 [.clo 99 [] [.ptr 0 0, .ptr 1 0, .ptr 2 0]])], 5, (fr_ s_4), [], 3⟩ (by kernel_rfl) ?_
      refine AW.srwK (fun Q_16 hQ_16 => ?_)
      refine RW.au fokW 5 [] ⟨[(1, .d (I part)), (4, .ptr 2 0), (5, .ptr 3 0), (8, .ptr 4 0), (36, .d (I (wr ((wr (p.Weight.High - p.Weight.Low)) + 1)))), (37, .d (I v)), (40, .d (I part)), (44, .d (I (wr (p.Weight.Low + v))))], [(4, .var 42 [.d (I p.Weight.Low), .d (I p.Weight.High)]), (3, .var 92 [.d (I (w1 0)), .d (I (w1 1)), .d (I (w1 2)), .d (I (w1 3))]), (0, .var 83 (bkV o0B o0T o0L (.d (.nilMap)))), (1, .var 126 [.yld]), (2, .var 127 [.clo 99 [] [.ptr 0 0, .ptr 1 0, .ptr 2 0]])], 5, (fr_ s_4), [], 3⟩ (by kernel_rfl) ?_
      obtain ⟨j, hv_17, h⟩ := bsome h
      refine RW.one fokW (r_iaV trivial rfl rfl rfl (ixN_ok hv_17).1 (ixN_ok hv_17).2.1 (r_end ?_))
      refine RW.one fokW (r_stX trivial rfl rfl rfl rfl rfl (aslot hv_17 rfl) (cs' := [.d (I ((aset w1 j (wr (p.Weight.Low + v))) 0)), .d (I ((aset w1 j (wr (p.Weight.Low + v))) 1)), .d (I ((aset w1 j (wr (p.Weight.Low + v))) 2)), .d (I ((aset w1 j (wr (p.Weight.Low + v))) 3))]) (ast (w := w1) (c := fun z => .d (I z)) hv_17) (r_end ?_))
      refine RW.nil ?_
      refine hQ_16 _ ?_
      refine AW.srwK (fun Q_18 hQ_18 => ?_)
      refine RW.au fokW 4 [] ⟨[(1, .d (I part)), (4, .ptr 2 0), (5, .ptr 3 0), (8, .ptr 4 0), (36, .d (I (wr ((wr (p.Weight.High - p.Weight.Low)) + 1)))), (37, .d (I v)), (46, .clo 99 [] [.ptr 0 0, .ptr 1 0, .ptr 2 0]), (47, .agg [.d (I ((aset w1 j (wr (p.Weight.Low + v))) 0)), .d (I ((aset w1 j (wr (p.Weight.Low + v))) 1)), .d (I ((aset w1 j (wr (p.Weight.Low + v))) 2)), .d (I ((aset w1 j (wr (p.Weight.Low + v))) 3))]), (49, .d (I (wr (part + 1))))], [(3, .var 92 [.d (I ((aset w1 j (wr (p.Weight.Low + v))) 0)), .d (I ((aset w1 j (wr (p.Weight.Low + v))) 1)), .d (I ((aset w1 j (wr (p.Weight.Low + v))) 2)), .d (I ((aset w1 j (wr (p.Weight.Low + v))) 3))]), (4, .var 42 [.d (I p.Weight.Low), .d (I p.Weight.High)]), (0, .var 83 (bkV o0B o0T o0L (.d (.nilMap)))), (1, .var 126 [.yld]), (2, .var 127 [.clo 99 [] [.ptr 0 0, .ptr 1 0, .ptr 2 0]])], 5, (fr_ s_4), [], 3⟩ (by kernel_rfl) ?_
      obtain ⟨⟨r0_5_1, s_8_1⟩, hx_19, h⟩ := bsome h
      refine RW.one fokW (r_callvS (zr := []) [0, 1, 2] trivial rfl (.clo _ _ _) (by kernel_rfl) rfl (ih (aset w1 j (wr (p.Weight.Low + v))) (wr (part + 1)) o0B o0T o0L s_4 _ hx_19) ⟨rfl, rfl, rfl, trivial⟩ rfl rfl ⟨.refl _, .refl _, .refl _, .refl _, .refl _, trivial⟩ rfl rfl rfl (r_end ?_))
      refine RW.au fokW 1 [] ⟨[(1, .d (I part)), (4, .ptr 2 0), (5, .ptr 3 0), (8, .ptr 4 0), (36, .d (I (wr ((wr (p.Weight.High - p.Weight.Low)) + 1)))), (37, .d (I v)), (51, .d (.bool (!r0_5_1)))], [(0, .var 83 (bkV o0B o0T o0L (.d (.nilMap)))), (1, .var 126 [.yld]), (2, .var 127 [.clo 99 [] [.ptr 0 0, .ptr 1 0, .ptr 2 0]]), (3, .var 92 [.d (I ((aset w1 j (wr (p.Weight.Low + v))) 0)), .d (I ((aset w1 j (wr (p.Weight.Low + v))) 1)), .d (I ((aset w1 j (wr (p.Weight.Low + v))) 2)), .d (I ((aset w1 j (wr (p.Weight.Low + v))) 3))]), (4, .var 42 [.d (I p.Weight.Low), .d (I p.Weight.High)])], 5, (fr_ s_8_1), [], 3⟩ (by kernel_rfl) ?_
      refine RW.nil ?_
      refine hQ_18 _ ?_
      refine AW.cond rfl (fun hb_20 => ?_) (fun hb_20 => ?_)
      ·have h := ifT hb_20 h
       refine AW.sa fokW [] ⟨[(7, .d (.bool false))], [(0, .var 83 (bkV o0B o0T o0L (.d (.nilMap)))), (1, .var 126 [.yld]), (2, .var 127 [.clo 99 [] [.ptr 0 0, .ptr 1 0, .ptr 2 0]])], 5, (fr_ s_8_1), [], 3⟩ (by kernel_rfl) ?_
       obtain rfl := Option.some.inj h
       have e_3 := hb_12 _ rfl
       subst e_3
       obtain rfl := Aft.bk hk_12
       obtain rfl := Aft.bk hk_11
       obtain rfl := Aft.bk hk_10
       exact AW.ret (hR_0 _ (retX (.cons (.tmp rfl) .nil) (.refl _) rfl (by kernel_rfl) (by kernel_rfl)))
      ·have h := ifF hb_20 h
       refine AW.skip ?_
       refine hK_15 _ ?_
       refine AW.ra fokW [] ⟨[(1, .d (I part)), (4, .ptr 2 0), (5, .ptr 3 0), (8, .ptr 4 0), (36, .d (I (wr ((wr (p.Weight.High - p.Weight.Low)) + 1)))), (37, .d (I (wr (v + 1))))], [(0, .var 83 (bkV o0B o0T o0L (.d (.nilMap)))), (1, .var 126 [.yld]), (2, .var 127 [.clo 99 [] [.ptr 0 0, .ptr 1 0, .ptr 2 0]]), (3, .var 92 [.d (I ((aset w1 j (wr (p.Weight.Low + v))) 0)), .d (I ((aset w1 j (wr (p.Weight.Low + v))) 1)), .d (I ((aset w1 j (wr (p.Weight.Low + v))) 2)), .d (I ((aset w1 j (wr (p.Weight.Low + v))) 3))]), (4, .var 42 [.d (I p.Weight.Low), .d (I p.Weight.High)])], 5, (fr_ s_8_1), [], 3⟩ (by kernel_rfl) ?_
       obtain rfl := Option.some.inj h
       have ew : wr (v + 1) = v + 1 := inext (N := (wr ((wr (p.Weight.High - p.Weight.Low)) + 1))) (by omega) (by omega) (by omega)
       rw [ew]
       exact hK_12 _ _ rfl (Can.kp (by kernel_rfl))
     ·obtain ⟨s_4, w1⟩ := s_12
      subst hout
      have h := Aft.nx hk_12
      refine AW.sa fokW [] ⟨[(1, .d (I part)), (4, .ptr 2 0), (5, .ptr 3 0), (8, .ptr 4 0), (36, .d (I (wr ((wr (p.Weight.High - p.Weight.Low)) + 1)))), (37, .d (I v)), (38, .d (.bool (decide (v < (wr ((wr (p.Weight.High - p.Weight.Low)) + 1))))))], [(4, .var 42 [.d (I p.Weight.Low), .d (I p.Weight.High)]), (3, .var 92 [.d (I (w1 0)), .d (I (w1 1)), .d (I (w1 2)), .d (I (w1 3))]), (0, .var 83 (bkV o0B o0T o0L (.d (.nilMap)))), (1, .var 126 [.yld]), (2, .var 127 [.clo 99 [] [.ptr 0 0, .ptr 1 0, .ptr 2 0]])], 5, (fr_ s_4), [], 3⟩ (by kernel_rfl) ?_
      refine AW.seqK (fun K_21 hK_21 => ?_)
      refine AW.cond rfl (fun hb_22 => False.elim (by have := of_decide_eq_true hb_22; omega)) (fun hb_22 => ?_)
      refine AW.exit ?_
      obtain rfl := Option.some.inj h
      exact hK_11 _ _ rfl (Can.kp (by kernel_rfl))
    ·subst hj_11
     have h := Aft.nx hk_11
     obtain rfl := Option.some.inj h
     exact hK_10 _ _ rfl (Can.kp (by kernel_rfl))
   ·subst hj_10
    have h := Aft.nx hk_10
    refine AW.sa fokW [] ⟨[(7, .d (.bool true))], [(0, .var 83 (bkV o0B o0T o0L (.d (.nilMap)))), (1, .var 126 [.yld]), (2, .var 127 [.clo 99 [] [.ptr 0 0, .ptr 1 0, .ptr 2 0]])], 3, (fr_ s_2), [], 3⟩ (by kernel_rfl) ?_
    obtain rfl := Option.some.inj h
    exact AW.ret (hR_0 _ (retX (.cons (.tmp rfl) .nil) (.refl _) rfl (by kernel_rfl) (by kernel_rfl)))
def g98a {S_ : Type} (c_ : (Nat → Int) → S_ → Option (S_ × Bool)) (o0B : StandBook) (o0T : (List (Nat → Int))) (o0L : Stand_load) (s_ : S_) : Option S_ := (g100).bind fun r0 => (g99a c_ 1000 r0 0 o0B o0T o0L s_).bind fun (r0_5, s_8) => some s_8
theorem k98a {S_ : Type} (fr_ : S_ → Fr) (c_ : (Nat → Int) → S_ → Option (S_ × Bool)) (hc_ : ∀ (a0 : (Nat → Int)) s s2 b, c_ a0 s = some (s2, b) → YCall Tryd.prog Gs (fr_ s) [.agg [.d (I (a0 0)), .d (I (a0 1)), .d (I (a0 2)), .d (I (a0 3))]] (.d (.bool b)) (fr_ s2)) (o0B : StandBook) (o0T : (List (Nat → Int))) (o0L : Stand_load) (s_ : S_) (r : S_) (h : g98a c_ o0B o0T o0L s_ = some r) : SCall Tryd.prog Gs 98 [.yld, .ptr 0 0] [(0, .var 83 (bkV o0B o0T o0L (.d (.nilMap))))] 1 (fr_ s_) (.tup []) [(0, .var 83 (bkV o0B o0T o0L (.d (.nilMap))))] 1 (fr_ r) := by
 unfold g98a at h
 refine SCall.mkK Tryd.func98 c98 rfl rfl (by kernel_rfl) (fun Q_0 hR_0 hN_0 => ?_)
 refine AW.sa fokW [] ⟨[(1, .ptr 0 0), (2, .ptr 1 0)], [(1, .var 126 [.yld]), (0, .var 83 (bkV o0B o0T o0L (.d (.nilMap))))], 2, (fr_ s_), [], 1⟩ (by kernel_rfl) ?_
 refine AW.sa fokW [] ⟨[(1, .ptr 0 0), (2, .ptr 1 0), (3, .ptr 2 0)], [(2, .var 127 [.d (.nilFn)]), (1, .var 126 [.yld]), (0, .var 83 (bkV o0B o0T o0L (.d (.nilMap))))], 3, (fr_ s_), [], 1⟩ (by kernel_rfl) ?_
 refine AW.sa fokW [] ⟨[(3, .ptr 2 0)], [(2, .var 127 [.clo 99 [] [.ptr 0 0, .ptr 1 0, .ptr 2 0]]), (1, .var 126 [.yld]), (0, .var 83 (bkV o0B o0T o0L (.d (.nilMap))))], 3, (fr_ s_), [], 1⟩ (by kernel_rfl) ?_
 refine AW.drw fokW ?_
 refine RunC.auX 1 ⟨[(5, .clo 99 [] [.ptr 0 0, .ptr 1 0, .ptr 2 0])], [(2, .var 127 [.clo 99 [] [.ptr 0 0, .ptr 1 0, .ptr 2 0]]), (1, .var 126 [.yld]), (0, .var 83 (bkV o0B o0T o0L (.d (.nilMap))))], 3, (fr_ s_), [], 1⟩ (by kernel_rfl) ?_
 obtain ⟨r0, hx_2, h⟩ := bsome h
 refine r_call trivial rfl (k100 _ hx_2) rfl rfl ?_
 obtain ⟨⟨r0_5, s_8⟩, hx_3, h⟩ := bsome h
 refine r_callvS (zr := []) [0, 1, 2] trivial rfl (.clo _ _ _) (by kernel_rfl) rfl (k99a fr_ c_ hc_ 1000 r0 0 o0B o0T o0L s_ _ hx_3) ⟨rfl, rfl, rfl, trivial⟩ rfl rfl ⟨.refl _, .refl _, .refl _, .refl _, .refl _, trivial⟩ rfl rfl rfl ?_
 refine RunC.fin ⟨[], [(0, .var 83 (bkV o0B o0T o0L (.d (.nilMap))))], 3, (fr_ s_8), [], 1⟩ (by kernel_rfl) (by kernel_rfl) ?_
 obtain rfl := Option.some.inj h
 exact hN_0 _ (retX .nil (.refl _) rfl (by kernel_rfl) (by kernel_rfl))
def g95a_3 (w : (Nat → Int)) : Int → StandPart → (Int × Int × Int) → Option (Int × Int × Int) := fun v p (weight, along, high) => (ixN 4 v).bind fun j => (ixN 4 v).bind fun j1 => (ixN 4 v).bind fun j2 => some ((wr (weight + (w j))), (wr (along + (wr ((w j1) * p.Along)))), (wr (high + (wr ((w j2) * p.High)))))
def g95a (bB : StandBook) (bT : (List (Nat → Int))) (bL : Stand_load) (w : (Nat → Int)) (c : Stand_child) : Option Stand_load := (eachS (g95a_3 w) bB.Parts 0 ((wr (bL.weight + c.weight)), (wr (bL.along + (wr (c.weight * (wr (bB.Along + c.lean)))))), (wr (bL.high + (wr (c.weight * bB.High)))))).bind fun (weight, along, high) => some (Stand_load.mk weight along high)
theorem k95a (bB : StandBook) (bT : (List (Nat → Int))) (bL : Stand_load) (w : (Nat → Int)) (c : Stand_child) (r : Stand_load) (h : g95a bB bT bL w c = some r) : SCall Tryd.prog Gs 95 [.agg [.d (I bB.Kind), .d (I bB.Front), .d (I bB.Back), .d (I bB.Radius), .d (.sl 4 (List.map e70 bB.Parts)), .d (I bB.Along), .d (I bB.High), .d (I bB.Lean_), .d (I bB.Limit), .d (.sl 3 (List.map e65 bB.Trials)), .d (.sl 4 (List.map e92 bT)), .d (I bL.weight), .d (I bL.along), .d (I bL.high), .d (.nilMap)], .agg [.d (I (w 0)), .d (I (w 1)), .d (I (w 2)), .d (I (w 3))], .agg [.d (I c.weight), .d (I c.lean)]] [] 0 Fr.emp (.agg [.d (I r.weight), .d (I r.along), .d (I r.high)]) [] 0 Fr.emp := by
 unfold g95a at h
 refine SCall.mkK Tryd.func95 c95 rfl rfl (by kernel_rfl) (fun Q_0 hR_0 hN_0 => ?_)
 refine AW.sa fokW [] ⟨[(3, .ptr 0 0), (4, .ptr 1 0), (5, .ptr 2 0), (6, .ptr 3 0)], [(3, .var 80 [.d (I 0), .d (I 0), .d (I 0)]), (2, .var 94 [.d (I c.weight), .d (I c.lean)]), (1, .var 92 [.d (I (w 0)), .d (I (w 1)), .d (I (w 2)), .d (I (w 3))]), (0, .var 83 (bkV bB bT bL (.d (.nilMap))))], 4, Fr.emp, [], 0⟩ (by kernel_rfl) ?_
 refine AW.sa fokW [] ⟨[(3, .ptr 0 0), (4, .ptr 1 0), (5, .ptr 2 0), (6, .ptr 3 0), (7, .ptr 4 0)], [(4, .var 80 [.d (I bL.weight), .d (I bL.along), .d (I bL.high)]), (3, .var 80 [.d (I 0), .d (I 0), .d (I 0)]), (2, .var 94 [.d (I c.weight), .d (I c.lean)]), (1, .var 92 [.d (I (w 0)), .d (I (w 1)), .d (I (w 2)), .d (I (w 3))]), (0, .var 83 (bkV bB bT bL (.d (.nilMap))))], 5, Fr.emp, [], 0⟩ (by kernel_rfl) ?_
 refine AW.sa fokW [] ⟨[(3, .ptr 0 0), (4, .ptr 1 0), (5, .ptr 2 0), (6, .ptr 3 0), (7, .ptr 4 0)], [(4, .var 80 [.d (I (wr (bL.weight + c.weight))), .d (I bL.along), .d (I bL.high)]), (3, .var 80 [.d (I 0), .d (I 0), .d (I 0)]), (2, .var 94 [.d (I c.weight), .d (I c.lean)]), (1, .var 92 [.d (I (w 0)), .d (I (w 1)), .d (I (w 2)), .d (I (w 3))]), (0, .var 83 (bkV bB bT bL (.d (.nilMap))))], 5, Fr.emp, [], 0⟩ (by kernel_rfl) ?_
 refine AW.sa fokW [] ⟨[(3, .ptr 0 0), (4, .ptr 1 0), (5, .ptr 2 0), (6, .ptr 3 0), (7, .ptr 4 0)], [(4, .var 80 [.d (I (wr (bL.weight + c.weight))), .d (I (wr (bL.along + (wr (c.weight * (wr (bB.Along + c.lean))))))), .d (I bL.high)]), (3, .var 80 [.d (I 0), .d (I 0), .d (I 0)]), (2, .var 94 [.d (I c.weight), .d (I c.lean)]), (1, .var 92 [.d (I (w 0)), .d (I (w 1)), .d (I (w 2)), .d (I (w 3))]), (0, .var 83 (bkV bB bT bL (.d (.nilMap))))], 5, Fr.emp, [], 0⟩ (by kernel_rfl) ?_
 refine AW.sa fokW [] ⟨[(3, .ptr 0 0), (4, .ptr 1 0), (6, .ptr 3 0), (7, .ptr 4 0)], [(4, .var 80 [.d (I (wr (bL.weight + c.weight))), .d (I (wr (bL.along + (wr (c.weight * (wr (bB.Along + c.lean))))))), .d (I (wr (bL.high + (wr (c.weight * bB.High)))))]), (3, .var 80 [.d (I 0), .d (I 0), .d (I 0)]), (1, .var 92 [.d (I (w 0)), .d (I (w 1)), .d (I (w 2)), .d (I (w 3))]), (0, .var 83 (bkV bB bT bL (.d (.nilMap))))], 5, Fr.emp, [], 0⟩ (by kernel_rfl) ?_
 refine AW.seqK (fun K_1 hK_1 => ?_)
 refine AW.srwK (fun Q_2 hQ_2 => ?_)
 refine RW.au fokW 3 [] ⟨[(4, .ptr 1 0), (6, .ptr 3 0), (7, .ptr 4 0), (43, .d (.sl 4 (List.map e70 bB.Parts)))], [(4, .var 80 [.d (I (wr (bL.weight + c.weight))), .d (I (wr (bL.along + (wr (c.weight * (wr (bB.Along + c.lean))))))), .d (I (wr (bL.high + (wr (c.weight * bB.High)))))]), (3, .var 80 [.d (I 0), .d (I 0), .d (I 0)]), (1, .var 92 [.d (I (w 0)), .d (I (w 1)), .d (I (w 2)), .d (I (w 3))])], 5, Fr.emp, [], 0⟩ (by kernel_rfl) ?_
 refine RW.one fokW (r_lenX trivial rfl lenm (r_end ?_))
 refine RW.au fokW 1 [] ⟨[(4, .ptr 1 0), (6, .ptr 3 0), (7, .ptr 4 0), (43, .d (.sl 4 (List.map e70 bB.Parts))), (44, .d (I (bB.Parts.length : Int))), (45, .d (I 0))], [(4, .var 80 [.d (I (wr (bL.weight + c.weight))), .d (I (wr (bL.along + (wr (c.weight * (wr (bB.Along + c.lean))))))), .d (I (wr (bL.high + (wr (c.weight * bB.High)))))]), (3, .var 80 [.d (I 0), .d (I 0), .d (I 0)]), (1, .var 92 [.d (I (w 0)), .d (I (w 1)), .d (I (w 2)), .d (I (w 3))])], 5, Fr.emp, [], 0⟩ (by kernel_rfl) ?_
 refine RW.nil ?_
 refine hQ_2 _ ?_
 refine AW.block ?_
 refine AW.sln (t := 43) rfl (fun hN_3 => ?_)
 rw [List.length_map] at hN_3
 obtain ⟨out_3, hx_3, h⟩ := bsome h
 refine AW.evSK (fun (v : Int) (⟨weight, along, high⟩ : Int × Int × Int) => ⟨[(4, .ptr 1 0), (6, .ptr 3 0), (7, .ptr 4 0), (43, .d (.sl 4 (List.map e70 bB.Parts))), (44, .d (I (bB.Parts.length : Int))), (45, .d (I v))], [(4, .var 80 [.d (I weight), .d (I along), .d (I high)]), (3, .var 80 [.d (I 0), .d (I 0), .d (I 0)]), (1, .var 92 [.d (I (w 0)), .d (I (w 1)), .d (I (w 2)), .d (I (w 3))])], 5, Fr.emp, [], 0⟩) (g95a_3 w) hx_3 (Can.kp (by kernel_rfl)) (fun v p s_3 hi_3 hl_3 hp_3 c_3 h K_3 hK_3 => ?_) (fun v s_3 hi_3 hl_3 hout => ?_)
 ·obtain ⟨weight, along, high⟩ := s_3
  unfold g95a_3 at h
  refine AW.sa fokW [] ⟨[(4, .ptr 1 0), (6, .ptr 3 0), (7, .ptr 4 0), (43, .d (.sl 4 (List.map e70 bB.Parts))), (44, .d (I (bB.Parts.length : Int))), (45, .d (I v)), (46, .d (.bool (decide (v < (bB.Parts.length : Int)))))], [(4, .var 80 [.d (I weight), .d (I along), .d (I high)]), (3, .var 80 [.d (I 0), .d (I 0), .d (I 0)]), (1, .var 92 [.d (I (w 0)), .d (I (w 1)), .d (I (w 2)), .d (I (w 3))])], 5, Fr.emp, [], 0⟩ (by kernel_rfl) ?_
  refine AW.seqK (fun K_4 hK_4 => ?_)
  refine AW.cond rfl (fun hb_5 => ?_) (fun hb_5 => False.elim (by have := of_decide_eq_false hb_5; omega))
  refine AW.skip ?_
  refine hK_4 _ ?_
  refine AW.seqK (fun K_6 hK_6 => ?_)
  refine AW.block ?_
  refine AW.srwK (fun Q_7 hQ_7 => ?_)
  refine RW.au fokW 1 [] ⟨[(4, .ptr 1 0), (6, .ptr 3 0), (7, .ptr 4 0), (43, .d (.sl 4 (List.map e70 bB.Parts))), (44, .d (I (bB.Parts.length : Int))), (45, .d (I v)), (47, .d (I v))], [(4, .var 80 [.d (I weight), .d (I along), .d (I high)]), (3, .var 80 [.d (I 0), .d (I 0), .d (I 0)]), (1, .var 92 [.d (I (w 0)), .d (I (w 1)), .d (I (w 2)), .d (I (w 3))])], 5, Fr.emp, [], 0⟩ (by kernel_rfl) ?_
  refine RW.one fokW (r_iaD trivial rfl rfl hi_3 (row := e70 p) (mapget hp_3) (r_end ?_))
  refine RW.au fokW 4 [] ⟨[(4, .ptr 1 0), (6, .ptr 3 0), (7, .ptr 4 0), (8, .d (I v)), (9, .ptr 5 0), (43, .d (.sl 4 (List.map e70 bB.Parts))), (44, .d (I (bB.Parts.length : Int))), (45, .d (I v))], [(5, .var 70 (cv70 p)), (4, .var 80 [.d (I weight), .d (I along), .d (I high)]), (3, .var 80 [.d (I 0), .d (I 0), .d (I 0)]), (1, .var 92 [.d (I (w 0)), .d (I (w 1)), .d (I (w 2)), .d (I (w 3))])], 6, Fr.emp, [], 0⟩ (by kernel_rfl) ?_
  refine RW.nil ?_
  refine hQ_7 _ ?_
  refine AW.sdrwK fokW (fun Q_8 hQ_8 => ?_)
  refine RunC.auX 3 ⟨[(4, .ptr 1 0), (6, .ptr 3 0), (7, .ptr 4 0), (8, .d (I v)), (9, .ptr 5 0), (43, .d (.sl 4 (List.map e70 bB.Parts))), (44, .d (I (bB.Parts.length : Int))), (45, .d (I v)), (51, .d (I weight)), (52, .d (I v))], [(5, .var 70 (cv70 p)), (4, .var 80 [.d (I weight), .d (I along), .d (I high)]), (3, .var 80 [.d (I 0), .d (I 0), .d (I 0)]), (1, .var 92 [.d (I (w 0)), .d (I (w 1)), .d (I (w 2)), .d (I (w 3))])], 6, Fr.emp, [], 0⟩ (by kernel_rfl) ?_
  obtain ⟨j, hv_9, h⟩ := bsome h
  refine r_iaV trivial rfl rfl rfl (ixN_ok hv_9).1 (ixN_ok hv_9).2.1 ?_
  refine r_loadV trivial rfl rfl (u := .d (I (w j))) (agt (f := fun k => .d (I (w k))) hv_9) ?_
  refine RunC.auX 3 ⟨[(4, .ptr 1 0), (6, .ptr 3 0), (7, .ptr 4 0), (8, .d (I v)), (9, .ptr 5 0), (43, .d (.sl 4 (List.map e70 bB.Parts))), (44, .d (I (bB.Parts.length : Int))), (45, .d (I v))], [(4, .var 80 [.d (I (wr (weight + (w j)))), .d (I along), .d (I high)]), (5, .var 70 (cv70 p)), (3, .var 80 [.d (I 0), .d (I 0), .d (I 0)]), (1, .var 92 [.d (I (w 0)), .d (I (w 1)), .d (I (w 2)), .d (I (w 3))])], 6, Fr.emp, [], 0⟩ (by kernel_rfl) ?_
  refine RunC.fin ⟨[(4, .ptr 1 0), (6, .ptr 3 0), (7, .ptr 4 0), (8, .d (I v)), (9, .ptr 5 0), (43, .d (.sl 4 (List.map e70 bB.Parts))), (44, .d (I (bB.Parts.length : Int))), (45, .d (I v))], [(4, .var 80 [.d (I (wr (weight + (w j)))), .d (I along), .d (I high)]), (5, .var 70 (cv70 p)), (3, .var 80 [.d (I 0), .d (I 0), .d (I 0)]), (1, .var 92 [.d (I (w 0)), .d (I (w 1)), .d (I (w 2)), .d (I (w 3))])], 6, Fr.emp, [], 0⟩ (by kernel_rfl) (by kernel_rfl) ?_
  refine hQ_8 _ ?_
  refine AW.sdrwK fokW (fun Q_10 hQ_10 => ?_)
  refine RunC.auX 3 ⟨[(4, .ptr 1 0), (6, .ptr 3 0), (7, .ptr 4 0), (8, .d (I v)), (9, .ptr 5 0), (43, .d (.sl 4 (List.map e70 bB.Parts))), (44, .d (I (bB.Parts.length : Int))), (45, .d (I v)), (58, .d (I along)), (59, .d (I v))], [(4, .var 80 [.d (I (wr (weight + (w j)))), .d (I along), .d (I high)]), (5, .var 70 (cv70 p)), (3, .var 80 [.d (I 0), .d (I 0), .d (I 0)]), (1, .var 92 [.d (I (w 0)), .d (I (w 1)), .d (I (w 2)), .d (I (w 3))])], 6, Fr.emp, [], 0⟩ (by kernel_rfl) ?_
  obtain ⟨j1, hv_11, h⟩ := bsome h
  refine r_iaV trivial rfl rfl rfl (ixN_ok hv_11).1 (ixN_ok hv_11).2.1 ?_
  refine r_loadV trivial rfl rfl (u := .d (I (w j1))) (agt (f := fun k => .d (I (w k))) hv_11) ?_
  refine RunC.auX 6 ⟨[(4, .ptr 1 0), (6, .ptr 3 0), (7, .ptr 4 0), (8, .d (I v)), (9, .ptr 5 0), (43, .d (.sl 4 (List.map e70 bB.Parts))), (44, .d (I (bB.Parts.length : Int))), (45, .d (I v))], [(4, .var 80 [.d (I (wr (weight + (w j)))), .d (I (wr (along + (wr ((w j1) * p.Along))))), .d (I high)]), (5, .var 70 (cv70 p)), (3, .var 80 [.d (I 0), .d (I 0), .d (I 0)]), (1, .var 92 [.d (I (w 0)), .d (I (w 1)), .d (I (w 2)), .d (I (w 3))])], 6, Fr.emp, [], 0⟩ (by kernel_rfl) ?_
  refine RunC.fin ⟨[(4, .ptr 1 0), (6, .ptr 3 0), (7, .ptr 4 0), (8, .d (I v)), (9, .ptr 5 0), (43, .d (.sl 4 (List.map e70 bB.Parts))), (44, .d (I (bB.Parts.length : Int))), (45, .d (I v))], [(4, .var 80 [.d (I (wr (weight + (w j)))), .d (I (wr (along + (wr ((w j1) * p.Along))))), .d (I high)]), (5, .var 70 (cv70 p)), (3, .var 80 [.d (I 0), .d (I 0), .d (I 0)]), (1, .var 92 [.d (I (w 0)), .d (I (w 1)), .d (I (w 2)), .d (I (w 3))])], 6, Fr.emp, [], 0⟩ (by kernel_rfl) (by kernel_rfl) ?_
  refine hQ_10 _ ?_
  refine AW.drw fokW ?_
  refine RunC.auX 3 ⟨[(4, .ptr 1 0), (6, .ptr 3 0), (7, .ptr 4 0), (9, .ptr 5 0), (43, .d (.sl 4 (List.map e70 bB.Parts))), (44, .d (I (bB.Parts.length : Int))), (45, .d (I v)), (68, .d (I high)), (69, .d (I v))], [(4, .var 80 [.d (I (wr (weight + (w j)))), .d (I (wr (along + (wr ((w j1) * p.Along))))), .d (I high)]), (5, .var 70 (cv70 p)), (3, .var 80 [.d (I 0), .d (I 0), .d (I 0)]), (1, .var 92 [.d (I (w 0)), .d (I (w 1)), .d (I (w 2)), .d (I (w 3))])], 6, Fr.emp, [], 0⟩ (by kernel_rfl) ?_
  obtain ⟨j2, hv_13, h⟩ := bsome h
  refine r_iaV trivial rfl rfl rfl (ixN_ok hv_13).1 (ixN_ok hv_13).2.1 ?_
  refine r_loadV trivial rfl rfl (u := .d (I (w j2))) (agt (f := fun k => .d (I (w k))) hv_13) ?_
  refine RunC.auX 6 ⟨[(4, .ptr 1 0), (6, .ptr 3 0), (7, .ptr 4 0), (43, .d (.sl 4 (List.map e70 bB.Parts))), (44, .d (I (bB.Parts.length : Int))), (45, .d (I v))], [(4, .var 80 [.d (I (wr (weight + (w j)))), .d (I (wr (along + (wr ((w j1) * p.Along))))), .d (I (wr (high + (wr ((w j2) * p.High)))))]), (5, .var 70 (cv70 p)), (3, .var 80 [.d (I 0), .d (I 0), .d (I 0)]), (1, .var 92 [.d (I (w 0)), .d (I (w 1)), .d (I (w 2)), .d (I (w 3))])], 6, Fr.emp, [], 0⟩ (by kernel_rfl) ?_
  refine RunC.fin ⟨[(4, .ptr 1 0), (6, .ptr 3 0), (7, .ptr 4 0), (43, .d (.sl 4 (List.map e70 bB.Parts))), (44, .d (I (bB.Parts.length : Int))), (45, .d (I v))], [(4, .var 80 [.d (I (wr (weight + (w j)))), .d (I (wr (along + (wr ((w j1) * p.Along))))), .d (I (wr (high + (wr ((w j2) * p.High)))))]), (3, .var 80 [.d (I 0), .d (I 0), .d (I 0)]), (1, .var 92 [.d (I (w 0)), .d (I (w 1)), .d (I (w 2)), .d (I (w 3))])], 6, Fr.emp, [], 0⟩ (by kernel_rfl) (by kernel_rfl) ?_
  refine hK_6 _ ?_
  refine AW.ra fokW [] ⟨[(4, .ptr 1 0), (6, .ptr 3 0), (7, .ptr 4 0), (43, .d (.sl 4 (List.map e70 bB.Parts))), (44, .d (I (bB.Parts.length : Int))), (45, .d (I (wr (v + 1))))], [(4, .var 80 [.d (I (wr (weight + (w j)))), .d (I (wr (along + (wr ((w j1) * p.Along))))), .d (I (wr (high + (wr ((w j2) * p.High)))))]), (3, .var 80 [.d (I 0), .d (I 0), .d (I 0)]), (1, .var 92 [.d (I (w 0)), .d (I (w 1)), .d (I (w 2)), .d (I (w 3))])], 6, Fr.emp, [], 0⟩ (by kernel_rfl) ?_
  obtain rfl := Option.some.inj h
  have ew : wr (v + 1) = v + 1 := inext (N := (bB.Parts.length : Int)) (by omega) (by omega) (by omega)
  rw [ew]
  exact hK_3 _ (Can.kp (by kernel_rfl))
 ·obtain ⟨weight, along, high⟩ := s_3
  subst hout
  refine AW.sa fokW [] ⟨[(4, .ptr 1 0), (6, .ptr 3 0), (7, .ptr 4 0), (43, .d (.sl 4 (List.map e70 bB.Parts))), (44, .d (I (bB.Parts.length : Int))), (45, .d (I v)), (46, .d (.bool (decide (v < (bB.Parts.length : Int)))))], [(4, .var 80 [.d (I weight), .d (I along), .d (I high)]), (3, .var 80 [.d (I 0), .d (I 0), .d (I 0)]), (1, .var 92 [.d (I (w 0)), .d (I (w 1)), .d (I (w 2)), .d (I (w 3))])], 5, Fr.emp, [], 0⟩ (by kernel_rfl) ?_
  refine AW.seqK (fun K_14 hK_14 => ?_)
  refine AW.cond rfl (fun hb_15 => False.elim (by have := of_decide_eq_true hb_15; omega)) (fun hb_15 => ?_)
  refine AW.exit ?_
  refine hK_1 _ ?_
  refine AW.sa fokW [] ⟨[(6, .ptr 3 0)], [(3, .var 80 [.d (I weight), .d (I along), .d (I high)])], 5, Fr.emp, [], 0⟩ (by kernel_rfl) ?_
  obtain rfl := Option.some.inj h
  exact AW.ret (hR_0 _ (retX (.cons (.agg rfl rfl (Nat.le_of_ble_eq_true rfl)) .nil) (.refl _) rfl (by kernel_rfl) (by kernel_rfl)))
def g121a (bB : StandBook) (bT : (List (Nat → Int))) (bL : Stand_load) (l : Stand_load) : Option Int := (g123 (wr ((wr (bB.Back * l.weight)) + l.along)) [(wr ((wr (bB.Front * l.weight)) - l.along))]).bind fun r0 => some r0
theorem k121a (bB : StandBook) (bT : (List (Nat → Int))) (bL : Stand_load) (l : Stand_load) (r : Int) (h : g121a bB bT bL l = some r) : SCall Tryd.prog Gs 121 [.agg [.d (I bB.Kind), .d (I bB.Front), .d (I bB.Back), .d (I bB.Radius), .d (.sl 4 (List.map e70 bB.Parts)), .d (I bB.Along), .d (I bB.High), .d (I bB.Lean_), .d (I bB.Limit), .d (.sl 3 (List.map e65 bB.Trials)), .d (.sl 4 (List.map e92 bT)), .d (I bL.weight), .d (I bL.along), .d (I bL.high), .d (.nilMap)], .agg [.d (I l.weight), .d (I l.along), .d (I l.high)]] [] 0 Fr.emp (.d (I r)) [] 0 Fr.emp := by
 unfold g121a at h
 refine SCall.mkK Tryd.func121 c121 rfl rfl (by kernel_rfl) (fun Q_0 hR_0 hN_0 => ?_)
 refine AW.sa fokW [] ⟨[(2, .ptr 0 0), (3, .ptr 1 0)], [(1, .var 80 [.d (I l.weight), .d (I l.along), .d (I l.high)]), (0, .var 83 (bkV bB bT bL (.d (.nilMap))))], 2, Fr.emp, [], 0⟩ (by kernel_rfl) ?_
 refine AW.srwK (fun Q_1 hQ_1 => ?_)
 refine RW.au fokW 19 [] ⟨[(13, .d (I (wr ((wr (bB.Back * l.weight)) + l.along)))), (23, .own 2 (List.map e3 [(wr ((wr (bB.Front * l.weight)) - l.along))]).length)], [(2, .row 3 1 (List.map e3 [(wr ((wr (bB.Front * l.weight)) - l.along))]))], 3, Fr.emp, [], 0⟩ (by kernel_rfl) ?_
 obtain ⟨r0, hx_2, h⟩ := bsome h
 refine RW.one fokW (r_callF (rs := [(2, .row 3 1 (List.map e3 [(wr ((wr (bB.Front * l.weight)) - l.along))]))]) trivial rfl (k123 (wr ((wr (bB.Back * l.weight)) + l.along)) [(wr ((wr (bB.Front * l.weight)) - l.along))] _ hx_2) ⟨rfl, trivial⟩ ⟨.refl _, (.own rfl rfl), trivial⟩ rfl rfl rfl (r_end ?_))
 refine RW.au fokW 1 [] ⟨[(4, .d (I r0))], [], 3, Fr.emp, [], 0⟩ (by kernel_rfl) ?_
 refine RW.nil ?_
 refine hQ_1 _ ?_
 obtain rfl := Option.some.inj h
 exact AW.ret (hR_0 _ (retX (.cons (.tmp rfl) .nil) (.refl _) rfl (by kernel_rfl) (by kernel_rfl)))
def g122a (bB : StandBook) (bT : (List (Nat → Int))) (bL : Stand_load) (l : Stand_load) : Option Int := (g123 (wr ((wr (bB.Back * (wr ((wr (bB.Radius * l.weight)) - l.high)))) + (wr (bB.Radius * l.along)))) [(wr ((wr (bB.Front * (wr ((wr (bB.Radius * l.weight)) - l.high)))) - (wr (bB.Radius * l.along))))]).bind fun r0 => some r0
theorem k122a (bB : StandBook) (bT : (List (Nat → Int))) (bL : Stand_load) (l : Stand_load) (r : Int) (h : g122a bB bT bL l = some r) : SCall Tryd.prog Gs 122 [.agg [.d (I bB.Kind), .d (I bB.Front), .d (I bB.Back), .d (I bB.Radius), .d (.sl 4 (List.map e70 bB.Parts)), .d (I bB.Along), .d (I bB.High), .d (I bB.Lean_), .d (I bB.Limit), .d (.sl 3 (List.map e65 bB.Trials)), .d (.sl 4 (List.map e92 bT)), .d (I bL.weight), .d (I bL.along), .d (I bL.high), .d (.nilMap)], .agg [.d (I l.weight), .d (I l.along), .d (I l.high)]] [] 0 Fr.emp (.d (I r)) [] 0 Fr.emp := by
 unfold g122a at h
 refine SCall.mkK Tryd.func122 c122 rfl rfl (by kernel_rfl) (fun Q_0 hR_0 hN_0 => ?_)
 refine AW.sa fokW [] ⟨[(2, .ptr 0 0), (3, .ptr 1 0)], [(1, .var 80 [.d (I l.weight), .d (I l.along), .d (I l.high)]), (0, .var 83 (bkV bB bT bL (.d (.nilMap))))], 2, Fr.emp, [], 0⟩ (by kernel_rfl) ?_
 refine AW.sa fokW [] ⟨[(2, .ptr 0 0), (3, .ptr 1 0), (5, .d (I (wr ((wr (bB.Radius * l.weight)) - l.high))))], [(1, .var 80 [.d (I l.weight), .d (I l.along), .d (I l.high)]), (0, .var 83 (bkV bB bT bL (.d (.nilMap))))], 2, Fr.emp, [], 0⟩ (by kernel_rfl) ?_
 refine AW.srwK (fun Q_1 hQ_1 => ?_)
 refine RW.au fokW 25 [] ⟨[(26, .d (I (wr ((wr (bB.Back * (wr ((wr (bB.Radius * l.weight)) - l.high)))) + (wr (bB.Radius * l.along)))))), (39, .own 2 (List.map e3 [(wr ((wr (bB.Front * (wr ((wr (bB.Radius * l.weight)) - l.high)))) - (wr (bB.Radius * l.along))))]).length)], [(2, .row 3 1 (List.map e3 [(wr ((wr (bB.Front * (wr ((wr (bB.Radius * l.weight)) - l.high)))) - (wr (bB.Radius * l.along))))]))], 3, Fr.emp, [], 0⟩ (by kernel_rfl) ?_
 obtain ⟨r0, hx_2, h⟩ := bsome h
 refine RW.one fokW (r_callF (rs := [(2, .row 3 1 (List.map e3 [(wr ((wr (bB.Front * (wr ((wr (bB.Radius * l.weight)) - l.high)))) - (wr (bB.Radius * l.along))))]))]) trivial rfl (k123 (wr ((wr (bB.Back * (wr ((wr (bB.Radius * l.weight)) - l.high)))) + (wr (bB.Radius * l.along)))) [(wr ((wr (bB.Front * (wr ((wr (bB.Radius * l.weight)) - l.high)))) - (wr (bB.Radius * l.along))))] _ hx_2) ⟨rfl, trivial⟩ ⟨.refl _, (.own rfl rfl), trivial⟩ rfl rfl rfl (r_end ?_))
 refine RW.au fokW 1 [] ⟨[(4, .d (I r0))], [], 3, Fr.emp, [], 0⟩ (by kernel_rfl) ?_
 refine RW.nil ?_
 refine hQ_1 _ ?_
 obtain rfl := Option.some.inj h
 exact AW.ret (hR_0 _ (retX (.cons (.tmp rfl) .nil) (.refl _) rfl (by kernel_rfl) (by kernel_rfl)))
def g70a (bB : StandBook) (bT : (List (Nat → Int))) (bL : Stand_load) (w : (Nat → Int)) (c : Stand_child) : Option Bool := (ixN 2 bB.Kind).bind fun j => match j with | 0 => (g95a bB bT bL w c).bind fun r0 => (g121a bB bT bL r0).bind fun r0_1 => some (decide (r0_1 < 0)) | 1 => (g95a bB bT bL w c).bind fun r0_2 => (g122a bB bT bL r0_2).bind fun r0_1_1 => some (decide (r0_1_1 < 0)) | _ => none
theorem k70a (bB : StandBook) (bT : (List (Nat → Int))) (bL : Stand_load) (w : (Nat → Int)) (c : Stand_child) (r : Bool) (h : g70a bB bT bL w c = some r) : SCall Tryd.prog Gs 70 [.agg [.d (I bB.Kind), .d (I bB.Front), .d (I bB.Back), .d (I bB.Radius), .d (.sl 4 (List.map e70 bB.Parts)), .d (I bB.Along), .d (I bB.High), .d (I bB.Lean_), .d (I bB.Limit), .d (.sl 3 (List.map e65 bB.Trials)), .d (.sl 4 (List.map e92 bT)), .d (I bL.weight), .d (I bL.along), .d (I bL.high), .d (.nilMap)], .agg [.d (I (w 0)), .d (I (w 1)), .d (I (w 2)), .d (I (w 3))], .agg [.d (I c.weight), .d (I c.lean)]] [] 0 Fr.emp (.d (.bool r)) [] 0 Fr.emp := by
 unfold g70a at h
 refine SCall.mkK Tryd.func70 c70 rfl rfl (by kernel_rfl) (fun Q_0 hR_0 hN_0 => ?_)
 refine AW.sa fokW [] ⟨[(3, .ptr 0 0), (4, .ptr 1 0), (5, .ptr 2 0)], [(2, .var 94 [.d (I c.weight), .d (I c.lean)]), (1, .var 92 [.d (I (w 0)), .d (I (w 1)), .d (I (w 2)), .d (I (w 3))]), (0, .var 83 (bkV bB bT bL (.d (.nilMap))))], 3, Fr.emp, [], 0⟩ (by kernel_rfl) ?_
 refine AW.sdrwK fokW (fun Q_1 hQ_1 => ?_)
 refine RunC.auX 3 ⟨[(3, .ptr 0 0), (4, .ptr 1 0), (5, .ptr 2 0), (9, .d (I bB.Kind))], [(2, .var 94 [.d (I c.weight), .d (I c.lean)]), (1, .var 92 [.d (I (w 0)), .d (I (w 1)), .d (I (w 2)), .d (I (w 3))]), (0, .var 83 (bkV bB bT bL (.d (.nilMap))))], 3, Fr.emp, [], 0⟩ (by kernel_rfl) ?_
 obtain ⟨j, hv_2, h⟩ := bsome h
 rcases j with _ | _ | j
 ·refine r_iaF trivial rfl rfl (ixN_ok hv_2).1 (ixN_ok hv_2).2.1 ?_
  refine r_loadF trivial rfl (u := .fn 121) (by rw [(ixN_ok hv_2).2.2]; rfl) ?_
  refine RunC.auX 4 ⟨[(11, .d (.fn 121)), (12, .agg [.d (I bB.Kind), .d (I bB.Front), .d (I bB.Back), .d (I bB.Radius), .d (.sl 4 (List.map e70 bB.Parts)), .d (I bB.Along), .d (I bB.High), .d (I bB.Lean_), .d (I bB.Limit), .d (.sl 3 (List.map e65 bB.Trials)), .d (.sl 4 (List.map e92 bT)), .d (I bL.weight), .d (I bL.along), .d (I bL.high), .d (.nilMap)]), (13, .agg [.d (I bB.Kind), .d (I bB.Front), .d (I bB.Back), .d (I bB.Radius), .d (.sl 4 (List.map e70 bB.Parts)), .d (I bB.Along), .d (I bB.High), .d (I bB.Lean_), .d (I bB.Limit), .d (.sl 3 (List.map e65 bB.Trials)), .d (.sl 4 (List.map e92 bT)), .d (I bL.weight), .d (I bL.along), .d (I bL.high), .d (.nilMap)]), (14, .agg [.d (I (w 0)), .d (I (w 1)), .d (I (w 2)), .d (I (w 3))]), (15, .agg [.d (I c.weight), .d (I c.lean)])], [(2, .var 94 [.d (I c.weight), .d (I c.lean)]), (1, .var 92 [.d (I (w 0)), .d (I (w 1)), .d (I (w 2)), .d (I (w 3))]), (0, .var 83 (bkV bB bT bL (.d (.nilMap))))], 3, Fr.emp, [], 0⟩ (by kernel_rfl) ?_
  obtain ⟨r0, hx_3, h⟩ := bsome h
  refine r_call trivial rfl (k95a bB bT bL w c _ hx_3) rfl rfl ?_
  obtain ⟨r0_1, hx_4, h⟩ := bsome h
  refine r_callvZ (zr := []) trivial rfl (.fn _) (by kernel_rfl) rfl (k121a bB bT bL r0 _ hx_4) trivial ⟨.refl _, .refl _, trivial⟩ rfl rfl rfl rfl ?_
  refine RunC.auX 2 ⟨[(6, .d (.bool (decide (r0_1 < 0))))], [(2, .var 94 [.d (I c.weight), .d (I c.lean)]), (1, .var 92 [.d (I (w 0)), .d (I (w 1)), .d (I (w 2)), .d (I (w 3))]), (0, .var 83 (bkV bB bT bL (.d (.nilMap))))], 3, Fr.emp, [], 0⟩ (by kernel_rfl) ?_
  refine RunC.fin ⟨[(6, .d (.bool (decide (r0_1 < 0))))], [], 3, Fr.emp, [], 0⟩ (by kernel_rfl) (by kernel_rfl) ?_
  refine hQ_1 _ ?_
  obtain rfl := Option.some.inj h
  exact AW.ret (hR_0 _ (retX (.cons (.tmp rfl) .nil) (.refl _) rfl (by kernel_rfl) (by kernel_rfl)))
 ·refine r_iaF trivial rfl rfl (ixN_ok hv_2).1 (ixN_ok hv_2).2.1 ?_
  refine r_loadF trivial rfl (u := .fn 122) (by rw [(ixN_ok hv_2).2.2]; rfl) ?_
  refine RunC.auX 4 ⟨[(11, .d (.fn 122)), (12, .agg [.d (I bB.Kind), .d (I bB.Front), .d (I bB.Back), .d (I bB.Radius), .d (.sl 4 (List.map e70 bB.Parts)), .d (I bB.Along), .d (I bB.High), .d (I bB.Lean_), .d (I bB.Limit), .d (.sl 3 (List.map e65 bB.Trials)), .d (.sl 4 (List.map e92 bT)), .d (I bL.weight), .d (I bL.along), .d (I bL.high), .d (.nilMap)]), (13, .agg [.d (I bB.Kind), .d (I bB.Front), .d (I bB.Back), .d (I bB.Radius), .d (.sl 4 (List.map e70 bB.Parts)), .d (I bB.Along), .d (I bB.High), .d (I bB.Lean_), .d (I bB.Limit), .d (.sl 3 (List.map e65 bB.Trials)), .d (.sl 4 (List.map e92 bT)), .d (I bL.weight), .d (I bL.along), .d (I bL.high), .d (.nilMap)]), (14, .agg [.d (I (w 0)), .d (I (w 1)), .d (I (w 2)), .d (I (w 3))]), (15, .agg [.d (I c.weight), .d (I c.lean)])], [(2, .var 94 [.d (I c.weight), .d (I c.lean)]), (1, .var 92 [.d (I (w 0)), .d (I (w 1)), .d (I (w 2)), .d (I (w 3))]), (0, .var 83 (bkV bB bT bL (.d (.nilMap))))], 3, Fr.emp, [], 0⟩ (by kernel_rfl) ?_
  obtain ⟨r0_2, hx_5, h⟩ := bsome h
  refine r_call trivial rfl (k95a bB bT bL w c _ hx_5) rfl rfl ?_
  obtain ⟨r0_1_1, hx_6, h⟩ := bsome h
  refine r_callvZ (zr := []) trivial rfl (.fn _) (by kernel_rfl) rfl (k122a bB bT bL r0_2 _ hx_6) trivial ⟨.refl _, .refl _, trivial⟩ rfl rfl rfl rfl ?_
  refine RunC.auX 2 ⟨[(6, .d (.bool (decide (r0_1_1 < 0))))], [(2, .var 94 [.d (I c.weight), .d (I c.lean)]), (1, .var 92 [.d (I (w 0)), .d (I (w 1)), .d (I (w 2)), .d (I (w 3))]), (0, .var 83 (bkV bB bT bL (.d (.nilMap))))], 3, Fr.emp, [], 0⟩ (by kernel_rfl) ?_
  refine RunC.fin ⟨[(6, .d (.bool (decide (r0_1_1 < 0))))], [], 3, Fr.emp, [], 0⟩ (by kernel_rfl) (by kernel_rfl) ?_
  refine hQ_1 _ ?_
  obtain rfl := Option.some.inj h
  exact AW.ret (hR_0 _ (retX (.cons (.tmp rfl) .nil) (.refl _) rfl (by kernel_rfl) (by kernel_rfl)))
 ·cases h
def g85a_3 (bB : StandBook) (bT : (List (Nat → Int))) (bL : Stand_load) (w : (Nat → Int)) (but : (List Int)) : Int → StandTrial → Unit → Option (Ctl (Unit) (Bool)) := fun v p _ => (g101 but v).bind fun r0 => bif (!r0) then ((g70a bB bT bL w (Stand_child.mk p.Weight p.Lean_)).bind fun r0_4 => bif (true != (r0_4 == p.Tipped)) then (some (.brk false)) else (some (.next ()))) else (some (.next ()))
def g85a (bB : StandBook) (bT : (List (Nat → Int))) (bL : Stand_load) (w : (Nat → Int)) (but : (List Int)) : Option Bool := bindC (eachC (g85a_3 bB bT bL w but) bB.Trials 0 ()) fun _ => some true
theorem k85a (bB : StandBook) (bT : (List (Nat → Int))) (bL : Stand_load) (w : (Nat → Int)) (but : (List Int)) (r : Bool) (h : g85a bB bT bL w but = some r) : SCall Tryd.prog Gs 85 [.agg [.d (I bB.Kind), .d (I bB.Front), .d (I bB.Back), .d (I bB.Radius), .d (.sl 4 (List.map e70 bB.Parts)), .d (I bB.Along), .d (I bB.High), .d (I bB.Lean_), .d (I bB.Limit), .d (.sl 3 (List.map e65 bB.Trials)), .d (.sl 4 (List.map e92 bT)), .d (I bL.weight), .d (I bL.along), .d (I bL.high), .d (.nilMap)], .agg [.d (I (w 0)), .d (I (w 1)), .d (I (w 2)), .d (I (w 3))], .d (.sl 1 (List.map e3 but))] [] 0 Fr.emp (.d (.bool r)) [] 0 Fr.emp := by
 unfold g85a at h
 refine SCall.mkK Tryd.func85 c85 rfl rfl (by kernel_rfl) (fun Q_0 hR_0 hN_0 => ?_)
 refine AW.sa fokW [] ⟨[(2, .d (.sl 1 (List.map e3 but))), (3, .ptr 0 0), (4, .ptr 1 0)], [(1, .var 92 [.d (I (w 0)), .d (I (w 1)), .d (I (w 2)), .d (I (w 3))]), (0, .var 83 (bkV bB bT bL (.d (.nilMap))))], 2, Fr.emp, [], 0⟩ (by kernel_rfl) ?_
 refine AW.seqK (fun K_1 hK_1 => ?_)
 refine AW.srwK (fun Q_2 hQ_2 => ?_)
 refine RW.au fokW 3 [] ⟨[(2, .d (.sl 1 (List.map e3 but))), (3, .ptr 0 0), (4, .ptr 1 0), (11, .d (.sl 3 (List.map e65 bB.Trials)))], [(1, .var 92 [.d (I (w 0)), .d (I (w 1)), .d (I (w 2)), .d (I (w 3))]), (0, .var 83 (bkV bB bT bL (.d (.nilMap))))], 2, Fr.emp, [], 0⟩ (by kernel_rfl) ?_
 refine RW.one fokW (r_lenX trivial rfl lenm (r_end ?_))
 refine RW.au fokW 1 [] ⟨[(2, .d (.sl 1 (List.map e3 but))), (3, .ptr 0 0), (4, .ptr 1 0), (11, .d (.sl 3 (List.map e65 bB.Trials))), (12, .d (I (bB.Trials.length : Int))), (13, .d (I 0))], [(1, .var 92 [.d (I (w 0)), .d (I (w 1)), .d (I (w 2)), .d (I (w 3))]), (0, .var 83 (bkV bB bT bL (.d (.nilMap))))], 2, Fr.emp, [], 0⟩ (by kernel_rfl) ?_
 refine RW.nil ?_
 refine hQ_2 _ ?_
 refine AW.block ?_
 refine AW.sln (t := 11) rfl (fun hN_3 => ?_)
 rw [List.length_map] at hN_3
 obtain ⟨out_3, hx_3, hk_3⟩ := bsomeC h
 refine AW.evCK (fun (v : Int) (_ : Unit) => ⟨[(2, .d (.sl 1 (List.map e3 but))), (3, .ptr 0 0), (4, .ptr 1 0), (11, .d (.sl 3 (List.map e65 bB.Trials))), (12, .d (I (bB.Trials.length : Int))), (13, .d (I v))], [(1, .var 92 [.d (I (w 0)), .d (I (w 1)), .d (I (w 2)), .d (I (w 3))]), (0, .var 83 (bkV bB bT bL (.d (.nilMap))))], 2, Fr.emp, [], 0⟩) (g85a_3 bB bT bL w but) hx_3 (Can.kp (by kernel_rfl)) (fun v p s_3 hi_3 hl_3 hp_3 c_3 h hb_3 K_3 hK_3 => ?_) (fun v s_3 hi_3 hl_3 hout => ?_)
 ·unfold g85a_3 at h
  refine AW.sa fokW [] ⟨[(2, .d (.sl 1 (List.map e3 but))), (3, .ptr 0 0), (4, .ptr 1 0), (11, .d (.sl 3 (List.map e65 bB.Trials))), (12, .d (I (bB.Trials.length : Int))), (13, .d (I v)), (14, .d (.bool (decide (v < (bB.Trials.length : Int)))))], [(1, .var 92 [.d (I (w 0)), .d (I (w 1)), .d (I (w 2)), .d (I (w 3))]), (0, .var 83 (bkV bB bT bL (.d (.nilMap))))], 2, Fr.emp, [], 0⟩ (by kernel_rfl) ?_
  refine AW.seqK (fun K_4 hK_4 => ?_)
  refine AW.cond rfl (fun hb_5 => ?_) (fun hb_5 => False.elim (by have := of_decide_eq_false hb_5; omega))
  refine AW.skip ?_
  refine hK_4 _ ?_
  refine AW.seqK (fun K_6 hK_6 => ?_)
  refine AW.block ?_
  refine AW.srwK (fun Q_7 hQ_7 => ?_)
  refine RW.au fokW 1 [] ⟨[(2, .d (.sl 1 (List.map e3 but))), (3, .ptr 0 0), (4, .ptr 1 0), (11, .d (.sl 3 (List.map e65 bB.Trials))), (12, .d (I (bB.Trials.length : Int))), (13, .d (I v)), (15, .d (I v))], [(1, .var 92 [.d (I (w 0)), .d (I (w 1)), .d (I (w 2)), .d (I (w 3))]), (0, .var 83 (bkV bB bT bL (.d (.nilMap))))], 2, Fr.emp, [], 0⟩ (by kernel_rfl) ?_
  refine RW.one fokW (r_iaD trivial rfl rfl hi_3 (row := e65 p) (mapget hp_3) (r_end ?_))
  refine RW.au fokW 4 [] ⟨[(2, .d (.sl 1 (List.map e3 but))), (3, .ptr 0 0), (4, .ptr 1 0), (7, .d (I v)), (8, .ptr 2 0), (11, .d (.sl 3 (List.map e65 bB.Trials))), (12, .d (I (bB.Trials.length : Int))), (13, .d (I v))], [(2, .var 65 [.d (I p.Weight), .d (I p.Lean_), .d (.bool p.Tipped)]), (1, .var 92 [.d (I (w 0)), .d (I (w 1)), .d (I (w 2)), .d (I (w 3))]), (0, .var 83 (bkV bB bT bL (.d (.nilMap))))], 3, Fr.emp, [], 0⟩ (by kernel_rfl) ?_
  refine RW.nil ?_
  refine hQ_7 _ ?_
  refine AW.sdrwK fokW (fun Q_8 hQ_8 => ?_)
  refine RunC.auX 2 ⟨[(2, .d (.sl 1 (List.map e3 but))), (3, .ptr 0 0), (4, .ptr 1 0), (8, .ptr 2 0), (11, .d (.sl 3 (List.map e65 bB.Trials))), (12, .d (I (bB.Trials.length : Int))), (13, .d (I v)), (18, .d (.sl 1 (List.map e3 but))), (19, .d (I v))], [(2, .var 65 [.d (I p.Weight), .d (I p.Lean_), .d (.bool p.Tipped)]), (1, .var 92 [.d (I (w 0)), .d (I (w 1)), .d (I (w 2)), .d (I (w 3))]), (0, .var 83 (bkV bB bT bL (.d (.nilMap))))], 3, Fr.emp, [], 0⟩ (by kernel_rfl) ?_
  obtain ⟨r0, hx_9, h⟩ := bsome h
  refine r_call trivial rfl (k101 but v _ hx_9) rfl rfl ?_
  refine RunC.auX 2 ⟨[(2, .d (.sl 1 (List.map e3 but))), (3, .ptr 0 0), (4, .ptr 1 0), (8, .ptr 2 0), (11, .d (.sl 3 (List.map e65 bB.Trials))), (12, .d (I (bB.Trials.length : Int))), (13, .d (I v)), (22, .d (.bool (!r0)))], [(2, .var 65 [.d (I p.Weight), .d (I p.Lean_), .d (.bool p.Tipped)]), (1, .var 92 [.d (I (w 0)), .d (I (w 1)), .d (I (w 2)), .d (I (w 3))]), (0, .var 83 (bkV bB bT bL (.d (.nilMap))))], 3, Fr.emp, [], 0⟩ (by kernel_rfl) ?_
  refine r_split 22 rfl (fun hb_10 => ?_) (fun hb_10 => ?_)
  ·have h := ifT hb_10 h
   refine RunC.auX 7 ⟨[(2, .d (.sl 1 (List.map e3 but))), (3, .ptr 0 0), (4, .ptr 1 0), (8, .ptr 2 0), (11, .d (.sl 3 (List.map e65 bB.Trials))), (12, .d (I (bB.Trials.length : Int))), (13, .d (I v)), (22, .d (.bool true)), (23, .agg [.d (I bB.Kind), .d (I bB.Front), .d (I bB.Back), .d (I bB.Radius), .d (.sl 4 (List.map e70 bB.Parts)), .d (I bB.Along), .d (I bB.High), .d (I bB.Lean_), .d (I bB.Limit), .d (.sl 3 (List.map e65 bB.Trials)), .d (.sl 4 (List.map e92 bT)), .d (I bL.weight), .d (I bL.along), .d (I bL.high), .d (.nilMap)]), (24, .agg [.d (I (w 0)), .d (I (w 1)), .d (I (w 2)), .d (I (w 3))]), (25, .ptr 2 0), (26, .d (I p.Weight)), (27, .ptr 2 1), (28, .d (I p.Lean_)), (29, .agg [.d (I p.Weight), .d (I p.Lean_)])], [(2, .var 65 [.d (I p.Weight), .d (I p.Lean_), .d (.bool p.Tipped)]), (1, .var 92 [.d (I (w 0)), .d (I (w 1)), .d (I (w 2)), .d (I (w 3))]), (0, .var 83 (bkV bB bT bL (.d (.nilMap))))], 3, Fr.emp, [], 0⟩ (by kernel_rfl) ?_
   obtain ⟨r0_4, hx_11, h⟩ := bsome h
   refine r_call rfl rfl (k70a bB bT bL w (Stand_child.mk p.Weight p.Lean_) _ hx_11) rfl rfl ?_
   refine RunC.auX 4 ⟨[(2, .d (.sl 1 (List.map e3 but))), (3, .ptr 0 0), (4, .ptr 1 0), (11, .d (.sl 3 (List.map e65 bB.Trials))), (12, .d (I (bB.Trials.length : Int))), (13, .d (I v)), (23, .agg [.d (I bB.Kind), .d (I bB.Front), .d (I bB.Back), .d (I bB.Radius), .d (.sl 4 (List.map e70 bB.Parts)), .d (I bB.Along), .d (I bB.High), .d (I bB.Lean_), .d (I bB.Limit), .d (.sl 3 (List.map e65 bB.Trials)), .d (.sl 4 (List.map e92 bT)), .d (I bL.weight), .d (I bL.along), .d (I bL.high), .d (.nilMap)]), (24, .agg [.d (I (w 0)), .d (I (w 1)), .d (I (w 2)), .d (I (w 3))]), (25, .ptr 2 0), (26, .d (I p.Weight)), (27, .ptr 2 1), (28, .d (I p.Lean_)), (29, .agg [.d (I p.Weight), .d (I p.Lean_)]), (30, .d (.bool r0_4)), (31, .ptr 2 2), (32, .d (.bool p.Tipped)), (33, .d (.bool (true != (r0_4 == p.Tipped)))), (34, .d (.bool (true != (r0_4 == p.Tipped))))], [(2, .var 65 [.d (I p.Weight), .d (I p.Lean_), .d (.bool p.Tipped)]), (1, .var 92 [.d (I (w 0)), .d (I (w 1)), .d (I (w 2)), .d (I (w 3))]), (0, .var 83 (bkV bB bT bL (.d (.nilMap))))], 3, Fr.emp, [], 0⟩ (by kernel_rfl) ?_
   refine RunC.fin ⟨[(2, .d (.sl 1 (List.map e3 but))), (3, .ptr 0 0), (4, .ptr 1 0), (11, .d (.sl 3 (List.map e65 bB.Trials))), (12, .d (I (bB.Trials.length : Int))), (13, .d (I v)), (23, .agg [.d (I bB.Kind), .d (I bB.Front), .d (I bB.Back), .d (I bB.Radius), .d (.sl 4 (List.map e70 bB.Parts)), .d (I bB.Along), .d (I bB.High), .d (I bB.Lean_), .d (I bB.Limit), .d (.sl 3 (List.map e65 bB.Trials)), .d (.sl 4 (List.map e92 bT)), .d (I bL.weight), .d (I bL.along), .d (I bL.high), .d (.nilMap)]), (24, .agg [.d (I (w 0)), .d (I (w 1)), .d (I (w 2)), .d (I (w 3))]), (25, .ptr 2 0), (26, .d (I p.Weight)), (27, .ptr 2 1), (28, .d (I p.Lean_)), (29, .agg [.d (I p.Weight), .d (I p.Lean_)]), (30, .d (.bool r0_4)), (31, .ptr 2 2), (32, .d (.bool p.Tipped)), (33, .d (.bool (true != (r0_4 == p.Tipped)))), (34, .d (.bool (true != (r0_4 == p.Tipped))))], [(2, .var 65 [.d (I p.Weight), .d (I p.Lean_), .d (.bool p.Tipped)]), (1, .var 92 [.d (I (w 0)), .d (I (w 1)), .d (I (w 2)), .d (I (w 3))]), (0, .var 83 (bkV bB bT bL (.d (.nilMap))))], 3, Fr.emp, [], 0⟩ (by kernel_rfl) (by kernel_rfl) ?_
   refine hQ_8 _ ?_
   refine AW.cond rfl (fun hb_12 => ?_) (fun hb_12 => ?_)
   ·have h := ifT hb_12 h
    refine AW.sa fokW [] ⟨[(6, .d (.bool false))], [], 3, Fr.emp, [], 0⟩ (by kernel_rfl) ?_
    obtain rfl := Option.some.inj h
    have e_1 := hb_3 _ rfl
    subst e_1
    obtain rfl := Aft.bk hk_3
    exact AW.ret (hR_0 _ (retX (.cons (.tmp rfl) .nil) (.refl _) rfl (by kernel_rfl) (by kernel_rfl)))
   ·have h := ifF hb_12 h
    refine AW.skip ?_
    refine hK_6 _ ?_
    refine AW.ra fokW [] ⟨[(2, .d (.sl 1 (List.map e3 but))), (3, .ptr 0 0), (4, .ptr 1 0), (11, .d (.sl 3 (List.map e65 bB.Trials))), (12, .d (I (bB.Trials.length : Int))), (13, .d (I (wr (v + 1)))), (23, .agg [.d (I bB.Kind), .d (I bB.Front), .d (I bB.Back), .d (I bB.Radius), .d (.sl 4 (List.map e70 bB.Parts)), .d (I bB.Along), .d (I bB.High), .d (I bB.Lean_), .d (I bB.Limit), .d (.sl 3 (List.map e65 bB.Trials)), .d (.sl 4 (List.map e92 bT)), .d (I bL.weight), .d (I bL.along), .d (I bL.high), .d (.nilMap)]), (24, .agg [.d (I (w 0)), .d (I (w 1)), .d (I (w 2)), .d (I (w 3))]), (25, .ptr 2 0), (26, .d (I p.Weight)), (27, .ptr 2 1), (28, .d (I p.Lean_)), (29, .agg [.d (I p.Weight), .d (I p.Lean_)]), (30, .d (.bool r0_4)), (31, .ptr 2 2), (32, .d (.bool p.Tipped)), (33, .d (.bool (true != (r0_4 == p.Tipped))))], [(2, .var 65 [.d (I p.Weight), .d (I p.Lean_), .d (.bool p.Tipped)]), (1, .var 92 [.d (I (w 0)), .d (I (w 1)), .d (I (w 2)), .d (I (w 3))]), (0, .var 83 (bkV bB bT bL (.d (.nilMap))))], 3, Fr.emp, [], 0⟩ (by kernel_rfl) ?_
    obtain rfl := Option.some.inj h
    have ew : wr (v + 1) = v + 1 := inext (N := (bB.Trials.length : Int)) (by omega) (by omega) (by omega)
    rw [ew]
    exact hK_3 _ _ rfl (Can.kp (by kernel_rfl))
  ·have h := ifF hb_10 h
   refine RunC.auX 12 ⟨[(2, .d (.sl 1 (List.map e3 but))), (3, .ptr 0 0), (4, .ptr 1 0), (11, .d (.sl 3 (List.map e65 bB.Trials))), (12, .d (I (bB.Trials.length : Int))), (13, .d (I v)), (23, .undef), (24, .undef), (25, .undef), (26, .undef), (27, .undef), (28, .undef), (29, .undef), (30, .undef), (31, .undef), (32, .undef), (33, .undef), (34, .d (.bool false))], [(2, .var 65 [.d (I p.Weight), .d (I p.Lean_), .d (.bool p.Tipped)]), (1, .var 92 [.d (I (w 0)), .d (I (w 1)), .d (I (w 2)), .d (I (w 3))]), (0, .var 83 (bkV bB bT bL (.d (.nilMap))))], 3, Fr.emp, [], 0⟩ (by kernel_rfl) ?_
   refine RunC.fin ⟨[(2, .d (.sl 1 (List.map e3 but))), (3, .ptr 0 0), (4, .ptr 1 0), (11, .d (.sl 3 (List.map e65 bB.Trials))), (12, .d (I (bB.Trials.length : Int))), (13, .d (I v)), (23, .undef), (24, .undef), (25, .undef), (26, .undef), (27, .undef), (28, .undef), (29, .undef), (30, .undef), (31, .undef), (32, .undef), (33, .undef), (34, .d (.bool false))], [(1, .var 92 [.d (I (w 0)), .d (I (w 1)), .d (I (w 2)), .d (I (w 3))]), (0, .var 83 (bkV bB bT bL (.d (.nilMap))))], 3, Fr.emp, [], 0⟩ (by kernel_rfl) (by kernel_rfl) ?_
   refine hQ_8 _ ?_
   refine AW.condF rfl ?_
   refine AW.skip ?_
   refine hK_6 _ ?_
   refine AW.ra fokW [] ⟨[(2, .d (.sl 1 (List.map e3 but))), (3, .ptr 0 0), (4, .ptr 1 0), (11, .d (.sl 3 (List.map e65 bB.Trials))), (12, .d (I (bB.Trials.length : Int))), (13, .d (I (wr (v + 1)))), (23, .undef), (24, .undef), (25, .undef), (26, .undef), (27, .undef), (28, .undef), (29, .undef), (30, .undef), (31, .undef), (32, .undef), (33, .undef)], [(1, .var 92 [.d (I (w 0)), .d (I (w 1)), .d (I (w 2)), .d (I (w 3))]), (0, .var 83 (bkV bB bT bL (.d (.nilMap))))], 3, Fr.emp, [], 0⟩ (by kernel_rfl) ?_
   obtain rfl := Option.some.inj h
   have ew : wr (v + 1) = v + 1 := inext (N := (bB.Trials.length : Int)) (by omega) (by omega) (by omega)
   rw [ew]
   exact hK_3 _ _ rfl (Can.kp (by kernel_rfl))
 ·subst hout
  have h := Aft.nx hk_3
  refine AW.sa fokW [] ⟨[(2, .d (.sl 1 (List.map e3 but))), (3, .ptr 0 0), (4, .ptr 1 0), (11, .d (.sl 3 (List.map e65 bB.Trials))), (12, .d (I (bB.Trials.length : Int))), (13, .d (I v)), (14, .d (.bool (decide (v < (bB.Trials.length : Int)))))], [(1, .var 92 [.d (I (w 0)), .d (I (w 1)), .d (I (w 2)), .d (I (w 3))]), (0, .var 83 (bkV bB bT bL (.d (.nilMap))))], 2, Fr.emp, [], 0⟩ (by kernel_rfl) ?_
  refine AW.seqK (fun K_13 hK_13 => ?_)
  refine AW.cond rfl (fun hb_14 => False.elim (by have := of_decide_eq_true hb_14; omega)) (fun hb_14 => ?_)
  refine AW.exit ?_
  refine hK_1 _ ?_
  refine AW.sa fokW [] ⟨[(6, .d (.bool true))], [], 2, Fr.emp, [], 0⟩ (by kernel_rfl) ?_
  obtain rfl := Option.some.inj h
  exact AW.ret (hR_0 _ (retX (.cons (.tmp rfl) .nil) (.refl _) rfl (by kernel_rfl) (by kernel_rfl)))
def g83_r7 (some_ : (List Int)) (o0B : StandBook) (o0T : (List (Nat → Int))) (o0L : Stand_load) : ((Nat → Int)) → (Unit) → Option (Ctl (Unit) (Unit)) := fun a _ => (g85a o0B o0T o0L a some_).bind fun r0_2 => bif (!r0_2) then (some (.next ())) else (some (.brk ()))
def g83_18 (rec_ : (List Int) → Int → StandBook → (List (Nat → Int)) → Stand_load → StandBook → Option ((List Int) × Bool)) (some_ : (List Int)) (many : Int) (o0B : StandBook) (o0T : (List (Nat → Int))) (o0L : Stand_load) (o1 : StandBook) : Int → Unit → Option (Ctl (Unit) (Ctl (Unit) (Ctl (Unit) ((List Int) × Bool)))) := fun n _ => (slcL some_ 0 (some_.length : Int)).bind fun l => (appL 8 l [n]).bind fun l1 => (rec_ l1 many o0B o0T o0L o1).bind fun (r0_5_1, r1_4_1) => bif r1_4_1 then (some (.brk (.brk (.brk (r0_5_1, true))))) else (some (.next ()))
def g83 : Nat → (List Int) → Int → StandBook → (List (Nat → Int)) → Stand_load → StandBook → Option ((List Int) × Bool)
 | 0, _, _, _, _, _, _ => none
 | n_ + 1, some_, many, o0B, o0T, o0L, o1 => bif (decide ((some_.length : Int) = many)) then ((g84a o0B o0T o0L).bind fun (o0B1, o0T1, o0L1) => (g98a (fun a s => rndC (g83_r7 some_ o0B o0T o0L) a s) o0B1 o0T1 o0L1 (.next ())).bind fun out_7 => match out_7 with | .next _ => some ([], false) | .brk _ => some (some_, true)) else ((bif (decide (0 < (some_.length : Int))) then ((ixL some_ (wr ((some_.length : Int) - 1))).bind fun p => some (wr (p + 1))) else (some 0)).bind fun from_ => bindC (bindC ((must (decide (-9223372036854775808 ≤ from_))).bind fun _ => bindC (forC (g83_18 (g83 n_) some_ many o0B o0T o0L o1) ((((o1.Trials.length : Int) : Int) - from_).toNat) from_ ()) fun _ => some (.next ()) : Option (Ctl (Unit) (Ctl (Unit) ((List Int) × Bool)))) fun _ => some (.next ()) : Option (Ctl (Unit) ((List Int) × Bool))) fun _ => some ([], false))
theorem k83 : ∀ (n_ : Nat) (some_ : (List Int)) (many : Int) (o0B : StandBook) (o0T : (List (Nat → Int))) (o0L : Stand_load) (o1 : StandBook) (r : (List Int) × Bool) (h : g83 n_ some_ many o0B o0T o0L o1 = some r), SCall Tryd.prog Gs 83 [.d (.sl 1 (List.map e3 some_)), .d (I many), .ptr 0 0, .ptr 1 0, .ptr 2 0] [(0, .var 83 (bkV o0B o0T o0L (.d (.nilMap)))), (1, .var 25 (cv25 o1)), (2, .var 105 [.clo 83 [] [.ptr 0 0, .ptr 1 0, .ptr 2 0]])] 3 Fr.emp (match r with | (r0_5, r1_4) => .tup [.d (.sl 1 (List.map e3 r0_5)), .d (.bool r1_4)]) (match r with | (r0_5, r1_4) => [(0, .var 83 (bkV o0B o0T o0L (.d (.nilMap)))), (1, .var 25 (cv25 o1)), (2, .var 105 [.clo 83 [] [.ptr 0 0, .ptr 1 0, .ptr 2 0]])]) 3 Fr.emp := by
 intro n_
 induction n_ with
 | zero => intro some_ many o0B o0T o0L o1 r h; cases h
 | succ n_ ih =>
  intro some_ many o0B o0T o0L o1 r h
  rw [g83] at h
  refine SCall.mkK Tryd.func83 c83 rfl rfl (by kernel_rfl) (fun Q_0 hR_0 hN_0 => ?_)
  refine AW.sa fokW [] ⟨[(1, .d (I many)), (2, .ptr 0 0), (3, .ptr 1 0), (4, .ptr 2 0), (5, .ptr 3 0), (7, .ptr 4 0), (8, .ptr 5 0)], [(5, .var 4 [.d (.bool false)]), (4, .var 47 [.d (.nilSl)]), (3, .var 47 [.d (.sl 1 (List.map e3 some_))]), (0, .var 83 (bkV o0B o0T o0L (.d (.nilMap)))), (1, .var 25 (cv25 o1)), (2, .var 105 [.clo 83 [] [.ptr 0 0, .ptr 1 0, .ptr 2 0]])], 6, Fr.emp, [], 3⟩ (by kernel_rfl) ?_
  refine AW.srwK (fun Q_1 hQ_1 => ?_)
  refine RW.au fokW 1 [] ⟨[(1, .d (I many)), (2, .ptr 0 0), (3, .ptr 1 0), (4, .ptr 2 0), (5, .ptr 3 0), (7, .ptr 4 0), (8, .ptr 5 0), (15, .d (.sl 1 (List.map e3 some_)))], [(5, .var 4 [.d (.bool false)]), (4, .var 47 [.d (.nilSl)]), (3, .var 47 [.d (.sl 1 (List.map e3 some_))]), (0, .var 83 (bkV o0B o0T o0L (.d (.nilMap)))), (1, .var 25 (cv25 o1)), (2, .var 105 [.clo 83 [] [.ptr 0 0, .ptr 1 0, .ptr 2 0]])], 6, Fr.emp, [], 3⟩ (by kernel_rfl) ?_
  refine RW.one fokW (r_lenX trivial rfl lenm (r_end ?_))
  refine RW.au fokW 1 [] ⟨[(1, .d (I many)), (2, .ptr 0 0), (3, .ptr 1 0), (4, .ptr 2 0), (5, .ptr 3 0), (7, .ptr 4 0), (8, .ptr 5 0), (9, .d (I (some_.length : Int)))], [(5, .var 4 [.d (.bool false)]), (4, .var 47 [.d (.nilSl)]), (3, .var 47 [.d (.sl 1 (List.map e3 some_))]), (0, .var 83 (bkV o0B o0T o0L (.d (.nilMap)))), (1, .var 25 (cv25 o1)), (2, .var 105 [.clo 83 [] [.ptr 0 0, .ptr 1 0, .ptr 2 0]])], 6, Fr.emp, [], 3⟩ (by kernel_rfl) ?_
  refine RW.nil ?_
  refine hQ_1 _ ?_
  refine AW.seqK (fun K_2 hK_2 => ?_)
  refine AW.sa fokW [] ⟨[(1, .d (I many)), (2, .ptr 0 0), (3, .ptr 1 0), (4, .ptr 2 0), (5, .ptr 3 0), (7, .ptr 4 0), (8, .ptr 5 0), (9, .d (I (some_.length : Int))), (19, .d (.bool (decide ((some_.length : Int) = many))))], [(5, .var 4 [.d (.bool false)]), (4, .var 47 [.d (.nilSl)]), (3, .var 47 [.d (.sl 1 (List.map e3 some_))]), (0, .var 83 (bkV o0B o0T o0L (.d (.nilMap)))), (1, .var 25 (cv25 o1)), (2, .var 105 [.clo 83 [] [.ptr 0 0, .ptr 1 0, .ptr 2 0]])], 6, Fr.emp, [], 3⟩ (by kernel_rfl) ?_
  refine AW.cond rfl (fun hb_3 => ?_) (fun hb_3 => ?_)
  ·have h := ifT hb_3 h
   refine AW.scope ?_
   refine AW.seq (AW.skip ?_)
   refine AW.seqK (fun K_4 hK_4 => ?_)
   refine AW.srwK (fun Q_5 hQ_5 => ?_)
   refine RW.au fokW 1 [] ⟨[(2, .ptr 0 0), (5, .ptr 3 0), (7, .ptr 4 0), (8, .ptr 5 0), (20, .agg [.d (I o0B.Kind), .d (I o0B.Front), .d (I o0B.Back), .d (I o0B.Radius), .d (.sl 4 (List.map e70 o0B.Parts)), .d (I o0B.Along), .d (I o0B.High), .d (I o0B.Lean_), .d (I o0B.Limit), .d (.sl 3 (List.map e65 o0B.Trials)), .d (.sl 4 (List.map e92 o0T)), .d (I o0L.weight), .d (I o0L.along), .d (I o0L.high), .d (.nilMap)])], [(5, .var 4 [.d (.bool false)]), (4, .var 47 [.d (.nilSl)]), (3, .var 47 [.d (.sl 1 (List.map e3 some_))]), (0, .var 83 (bkV o0B o0T o0L (.d (.nilMap)))), (1, .var 25 (cv25 o1)), (2, .var 105 [.clo 83 [] [.ptr 0 0, .ptr 1 0, .ptr 2 0]])], 6, Fr.emp, [], 3⟩ (by kernel_rfl) ?_
   obtain ⟨⟨o0B1, o0T1, o0L1⟩, hx_6, h⟩ := bsome h
   refine RW.one fokW (r_callS (zr := []) [] trivial rfl (k84a o0B o0T o0L _ hx_6) trivial rfl rfl ⟨.refl _, trivial⟩ rfl rfl rfl (r_end ?_))
   refine RW.nil ?_
   refine hQ_5 _ ?_
   refine AW.block ?_
   obtain ⟨out_7, hx_7, h⟩ := bsome h
   refine AW.rfX (fun (_ : Unit) => [(7, .dm), (5, .var 4 [.d (.bool false)]), (4, .var 47 [.d (.nilSl)]), (3, .var 47 [.d (.sl 1 (List.map e3 some_))]), (0, .var 83 (bkV o0B o0T o0L (.d (.nilMap)))), (1, .var 25 (cv25 o1)), (2, .var 105 [.clo 83 [] [.ptr 0 0, .ptr 1 0, .ptr 2 0]])]) (fun (_ : Unit) => [(7, .dm), (5, .var 4 [.d (.bool true)]), (4, .var 47 [.d (.sl 1 (List.map e3 some_))]), (3, .var 47 [.d (.sl 1 (List.map e3 some_))]), (0, .var 83 (bkV o0B o0T o0L (.d (.nilMap)))), (1, .var 25 (cv25 o1)), (2, .var 105 [.clo 83 [] [.ptr 0 0, .ptr 1 0, .ptr 2 0]])]) (fun _ => some .ret) (g83_r7 some_ o0B o0T o0L) (fun (a : (Nat → Int)) => [.agg [.d (I (a 0)), .d (I (a 1)), .d (I (a 2)), .d (I (a 3))]]) (s0 := ()) (out := out_7) [(2, .ptr 0 0), (5, .ptr 3 0), (7, .ptr 4 0), (8, .ptr 5 0)] [(5, .var 4 [.d (.bool false)]), (4, .var 47 [.d (.nilSl)]), (3, .var 47 [.d (.sl 1 (List.map e3 some_))]), (0, .var 83 (bkV o0B o0T o0L (.d (.nilMap)))), (1, .var 25 (cv25 o1)), (2, .var 105 [.clo 83 [] [.ptr 0 0, .ptr 1 0, .ptr 2 0]])] [6] rfl (.clo _ _ _) (by kernel_rfl) (by kernel_rfl) (fun fr_ hY_7 => k98a fr_ _ (fun a s s2 b h => hY_7 a s s2 b h) o0B1 o0T1 o0L1 (.next ()) _ hx_7) (by kernel_rfl) ⟨rfl, trivial⟩ rfl ⟨rfl, rfl⟩ rfl rfl (fun _ => rfl) (fun _ => rfl) (fun a_7 s_7 c_7 h l_7 => ?_) (fun _ => rfl) ?_
   ·have ⟨a, e_7⟩ : ∃ x, x = a_7 := ⟨_, rfl⟩
    subst e_7
    unfold g83_r7 at h
    refine AW.ra (fokR l_7) [] ⟨[(2, .ptr 0 0), (5, .ptr 3 0), (7, .ptr 4 0), (8, .ptr 5 0), (10, .ptr 8 0)], [(8, .var 92 [.d (I (a 0)), .d (I (a 1)), .d (I (a 2)), .d (I (a 3))]), (7, .dm), (5, .var 4 [.d (.bool false)]), (4, .var 47 [.d (.nilSl)]), (3, .var 47 [.d (.sl 1 (List.map e3 some_))]), (0, .var 83 (bkV o0B o0T o0L (.d (.nilMap)))), (1, .var 25 (cv25 o1)), (2, .var 105 [.clo 83 [] [.ptr 0 0, .ptr 1 0, .ptr 2 0]])], 9, Fr.emp, [], 8⟩ (by kernel_rfl) ?_
    refine AW.block ?_
    refine AW.seqK (fun K_8 hK_8 => ?_)
    refine AW.srwK (fun Q_9 hQ_9 => ?_)
    refine RW.au (fokR l_7) 3 [] ⟨[(5, .ptr 3 0), (7, .ptr 4 0), (8, .ptr 5 0), (23, .agg [.d (I o0B.Kind), .d (I o0B.Front), .d (I o0B.Back), .d (I o0B.Radius), .d (.sl 4 (List.map e70 o0B.Parts)), .d (I o0B.Along), .d (I o0B.High), .d (I o0B.Lean_), .d (I o0B.Limit), .d (.sl 3 (List.map e65 o0B.Trials)), .d (.sl 4 (List.map e92 o0T)), .d (I o0L.weight), .d (I o0L.along), .d (I o0L.high), .d (.nilMap)]), (24, .agg [.d (I (a 0)), .d (I (a 1)), .d (I (a 2)), .d (I (a 3))]), (25, .d (.sl 1 (List.map e3 some_)))], [(7, .dm), (5, .var 4 [.d (.bool false)]), (4, .var 47 [.d (.nilSl)]), (3, .var 47 [.d (.sl 1 (List.map e3 some_))]), (0, .var 83 (bkV o0B o0T o0L (.d (.nilMap)))), (1, .var 25 (cv25 o1)), (2, .var 105 [.clo 83 [] [.ptr 0 0, .ptr 1 0, .ptr 2 0]])], 9, Fr.emp, [], 8⟩ (by kernel_rfl) ?_
    obtain ⟨r0_2, hx_10, h⟩ := bsome h
    refine RW.one (fokR l_7) (r_call trivial rfl (k85a o0B o0T o0L a some_ _ hx_10) rfl rfl (r_end ?_))
    refine RW.au (fokR l_7) 1 [] ⟨[(5, .ptr 3 0), (7, .ptr 4 0), (8, .ptr 5 0), (27, .d (.bool (!r0_2)))], [(7, .dm), (5, .var 4 [.d (.bool false)]), (4, .var 47 [.d (.nilSl)]), (3, .var 47 [.d (.sl 1 (List.map e3 some_))]), (0, .var 83 (bkV o0B o0T o0L (.d (.nilMap)))), (1, .var 25 (cv25 o1)), (2, .var 105 [.clo 83 [] [.ptr 0 0, .ptr 1 0, .ptr 2 0]])], 9, Fr.emp, [], 8⟩ (by kernel_rfl) ?_
    refine RW.nil ?_
    refine hQ_9 _ ?_
    refine AW.cond rfl (fun hb_11 => ?_) (fun hb_11 => ?_)
    ·have h := ifT hb_11 h
     refine AW.exit ?_
     obtain rfl := Option.some.inj h
     exact ⟨⟨[], [(7, .dm), (5, .var 4 [.d (.bool false)]), (4, .var 47 [.d (.nilSl)]), (3, .var 47 [.d (.sl 1 (List.map e3 some_))]), (0, .var 83 (bkV o0B o0T o0L (.d (.nilMap)))), (1, .var 25 (cv25 o1)), (2, .var 105 [.clo 83 [] [.ptr 0 0, .ptr 1 0, .ptr 2 0]])], 8, Fr.emp, [], 8⟩, Can.kp (by kernel_rfl), rdX trivial rfl (by kernel_rfl) (by kernel_rfl)⟩
    ·have h := ifF hb_11 h
     refine AW.skip ?_
     refine hK_8 _ ?_
     refine AW.sa (fokR l_7) [] ⟨[(7, .ptr 4 0), (8, .ptr 5 0)], [(5, .var 4 [.d (.bool true)]), (4, .var 47 [.d (.sl 1 (List.map e3 some_))]), (7, .dm), (3, .var 47 [.d (.sl 1 (List.map e3 some_))]), (0, .var 83 (bkV o0B o0T o0L (.d (.nilMap)))), (1, .var 25 (cv25 o1)), (2, .var 105 [.clo 83 [] [.ptr 0 0, .ptr 1 0, .ptr 2 0]])], 9, Fr.emp, [], 8⟩ (by kernel_rfl) ?_
     refine AW.ret ?_
     obtain rfl := Option.some.inj h
     exact ⟨⟨[], [(7, .dm), (5, .var 4 [.d (.bool true)]), (4, .var 47 [.d (.sl 1 (List.map e3 some_))]), (3, .var 47 [.d (.sl 1 (List.map e3 some_))]), (0, .var 83 (bkV o0B o0T o0L (.d (.nilMap)))), (1, .var 25 (cv25 o1)), (2, .var 105 [.clo 83 [] [.ptr 0 0, .ptr 1 0, .ptr 2 0]])], 8, Fr.emp, [], 8⟩, Can.kp (by kernel_rfl), rdX trivial rfl (by kernel_rfl) (by kernel_rfl)⟩
   ·rcases out_7 with _ | _
    ·refine hK_4 _ ?_
     refine AW.sa fokW [] ⟨[(7, .ptr 4 0), (8, .ptr 5 0)], [(5, .var 4 [.d (.bool false)]), (4, .var 47 [.d (.nilSl)]), (7, .dm), (0, .var 83 (bkV o0B o0T o0L (.d (.nilMap)))), (1, .var 25 (cv25 o1)), (2, .var 105 [.clo 83 [] [.ptr 0 0, .ptr 1 0, .ptr 2 0]])], 8, Fr.emp, [7], 3⟩ (by kernel_rfl) ?_
     obtain rfl := Option.some.inj h
     exact AW.ret (hR_0 _ (retX (.cons (.one rfl rfl rfl) (.cons (.one rfl rfl rfl) .nil)) (Frz.tup_of ⟨.nil 1, .refl _, trivial⟩) rfl (by kernel_rfl) (by kernel_rfl)))
    ·obtain rfl := Option.some.inj h
     exact hR_0 _ (retX (.cons (.one rfl rfl rfl) (.cons (.one rfl rfl rfl) .nil)) (.refl _) rfl (by kernel_rfl) (by kernel_rfl))
  ·have h := ifF hb_3 h
   refine AW.skip ?_
   refine hK_2 _ ?_
   refine AW.sa fokW [] ⟨[(1, .d (I many)), (3, .ptr 1 0), (4, .ptr 2 0), (5, .ptr 3 0), (7, .ptr 4 0), (8, .ptr 5 0), (9, .d (I (some_.length : Int))), (11, .d (I 0))], [(5, .var 4 [.d (.bool false)]), (4, .var 47 [.d (.nilSl)]), (3, .var 47 [.d (.sl 1 (List.map e3 some_))]), (0, .var 83 (bkV o0B o0T o0L (.d (.nilMap)))), (1, .var 25 (cv25 o1)), (2, .var 105 [.clo 83 [] [.ptr 0 0, .ptr 1 0, .ptr 2 0]])], 6, Fr.emp, [], 3⟩ (by kernel_rfl) ?_
   obtain ⟨from_, hx_12, h⟩ := bsome h
   refine AW.jnSK (fun (from_ : Int) => ⟨[(1, .d (I many)), (3, .ptr 1 0), (4, .ptr 2 0), (5, .ptr 3 0), (7, .ptr 4 0), (8, .ptr 5 0), (9, .d (I (some_.length : Int))), (11, .d (I from_))], [(5, .var 4 [.d (.bool false)]), (4, .var 47 [.d (.nilSl)]), (3, .var 47 [.d (.sl 1 (List.map e3 some_))]), (0, .var 83 (bkV o0B o0T o0L (.d (.nilMap)))), (1, .var 25 (cv25 o1)), (2, .var 105 [.clo 83 [] [.ptr 0 0, .ptr 1 0, .ptr 2 0]])], 6, Fr.emp, [], 3⟩) (c := from_) (fun K_12 hK_12 => ?_) ?_
   ·have h := hx_12
    refine AW.sa fokW [] ⟨[(1, .d (I many)), (3, .ptr 1 0), (4, .ptr 2 0), (5, .ptr 3 0), (7, .ptr 4 0), (8, .ptr 5 0), (9, .d (I (some_.length : Int))), (11, .d (I 0)), (30, .d (.bool (decide (0 < (some_.length : Int)))))], [(5, .var 4 [.d (.bool false)]), (4, .var 47 [.d (.nilSl)]), (3, .var 47 [.d (.sl 1 (List.map e3 some_))]), (0, .var 83 (bkV o0B o0T o0L (.d (.nilMap)))), (1, .var 25 (cv25 o1)), (2, .var 105 [.clo 83 [] [.ptr 0 0, .ptr 1 0, .ptr 2 0]])], 6, Fr.emp, [], 3⟩ (by kernel_rfl) ?_
    refine AW.cond rfl (fun hb_13 => ?_) (fun hb_13 => ?_)
    ·have h := ifT hb_13 h
     refine AW.rw ?_
     refine RW.au fokW 3 [] ⟨[(1, .d (I many)), (3, .ptr 1 0), (4, .ptr 2 0), (5, .ptr 3 0), (7, .ptr 4 0), (8, .ptr 5 0), (9, .d (I (some_.length : Int))), (31, .d (.sl 1 (List.map e3 some_))), (33, .d (I (wr ((some_.length : Int) - 1))))], [(5, .var 4 [.d (.bool false)]), (4, .var 47 [.d (.nilSl)]), (3, .var 47 [.d (.sl 1 (List.map e3 some_))]), (0, .var 83 (bkV o0B o0T o0L (.d (.nilMap)))), (1, .var 25 (cv25 o1)), (2, .var 105 [.clo 83 [] [.ptr 0 0, .ptr 1 0, .ptr 2 0]])], 6, Fr.emp, [], 3⟩ (by kernel_rfl) ?_
     obtain ⟨p, hv_15, h⟩ := bsome h
     refine RW.one fokW (r_iaD trivial rfl rfl (ixL_ok hv_15).1 (row := e3 p) (mapget (ixL_ok hv_15).2) (r_end ?_))
     refine RW.au fokW 3 [] ⟨[(1, .d (I many)), (3, .ptr 1 0), (4, .ptr 2 0), (5, .ptr 3 0), (7, .ptr 4 0), (8, .ptr 5 0), (9, .d (I (some_.length : Int))), (11, .d (I (wr (p + 1))))], [(5, .var 4 [.d (.bool false)]), (4, .var 47 [.d (.nilSl)]), (3, .var 47 [.d (.sl 1 (List.map e3 some_))]), (0, .var 83 (bkV o0B o0T o0L (.d (.nilMap)))), (1, .var 25 (cv25 o1)), (2, .var 105 [.clo 83 [] [.ptr 0 0, .ptr 1 0, .ptr 2 0]])], 6, Fr.emp, [], 3⟩ (by kernel_rfl) ?_
     refine RW.nil ?_
     obtain rfl := Option.some.inj h
     exact hK_12 _ (Can.kp (by kernel_rfl))
    ·have h := ifF hb_13 h
     refine AW.skip ?_
     obtain rfl := Option.some.inj h
     exact hK_12 _ (Can.kp (by kernel_rfl))
   ·obtain ⟨c_16, hx_16, hk_16⟩ := bsomeC h
    refine AW.jnK (fun (_ : Unit) => ⟨[(7, .ptr 4 0), (8, .ptr 5 0)], [(5, .var 4 [.d (.bool false)]), (4, .var 47 [.d (.nilSl)]), (0, .var 83 (bkV o0B o0T o0L (.d (.nilMap)))), (1, .var 25 (cv25 o1)), (2, .var 105 [.clo 83 [] [.ptr 0 0, .ptr 1 0, .ptr 2 0]])], 6, Fr.emp, [], 3⟩) (c := c_16) (fun K_16 hK_16 => ?_) (fun j_16 hj_16 => ?_)
    ·have h := hx_16
     refine AW.sa fokW [] ⟨[(1, .d (I many)), (3, .ptr 1 0), (4, .ptr 2 0), (5, .ptr 3 0), (7, .ptr 4 0), (8, .ptr 5 0), (9, .d (I (some_.length : Int))), (12, .d (I from_))], [(5, .var 4 [.d (.bool false)]), (4, .var 47 [.d (.nilSl)]), (3, .var 47 [.d (.sl 1 (List.map e3 some_))]), (0, .var 83 (bkV o0B o0T o0L (.d (.nilMap)))), (1, .var 25 (cv25 o1)), (2, .var 105 [.clo 83 [] [.ptr 0 0, .ptr 1 0, .ptr 2 0]])], 6, Fr.emp, [], 3⟩ (by kernel_rfl) ?_
     obtain ⟨c_17, hx_17, hk_17⟩ := bsomeC h
     refine AW.jqK (fun (_ : Unit) => ⟨[(7, .ptr 4 0), (8, .ptr 5 0)], [(5, .var 4 [.d (.bool false)]), (4, .var 47 [.d (.nilSl)]), (0, .var 83 (bkV o0B o0T o0L (.d (.nilMap)))), (1, .var 25 (cv25 o1)), (2, .var 105 [.clo 83 [] [.ptr 0 0, .ptr 1 0, .ptr 2 0]])], 6, Fr.emp, [], 3⟩) (c := c_17) (fun K_17 hK_17 => ?_) (fun j_17 hj_17 => ?_)
     ·have h := hx_17
      refine AW.block ?_
      refine AW.slh (r := 1) (off := 9) rfl rfl (fun hN_18 => ?_)
      rw [List.length_map] at hN_18
      obtain ⟨_, h0_18, h⟩ := bsome h
      have h0_18 := of_decide_eq_true (must_ok h0_18)
      obtain ⟨out_18, hx_18, hk_18⟩ := bsomeC h
      refine AW.lpCK (fun (n : Int) (_ : Unit) => ⟨[(1, .d (I many)), (3, .ptr 1 0), (4, .ptr 2 0), (5, .ptr 3 0), (7, .ptr 4 0), (8, .ptr 5 0), (9, .d (I (some_.length : Int))), (12, .d (I n))], [(5, .var 4 [.d (.bool false)]), (4, .var 47 [.d (.nilSl)]), (3, .var 47 [.d (.sl 1 (List.map e3 some_))]), (0, .var 83 (bkV o0B o0T o0L (.d (.nilMap)))), (1, .var 25 (cv25 o1)), (2, .var 105 [.clo 83 [] [.ptr 0 0, .ptr 1 0, .ptr 2 0]])], 6, Fr.emp, [], 3⟩) (g83_18 (g83 n_) some_ many o0B o0T o0L o1) ((o1.Trials.length : Int)) hx_18 (Can.kp (by kernel_rfl)) (fun n s_18 hi_18 hl_18 c_18 h hb_18 K_18 hK_18 => ?_) (fun n s_18 hi_18 hl_18 hout => ?_)
      ·unfold g83_18 at h
       refine AW.seqK (fun K_19 hK_19 => ?_)
       refine AW.srwK (fun Q_20 hQ_20 => ?_)
       refine RW.au fokW 3 [] ⟨[(1, .d (I many)), (3, .ptr 1 0), (4, .ptr 2 0), (5, .ptr 3 0), (7, .ptr 4 0), (8, .ptr 5 0), (9, .d (I (some_.length : Int))), (12, .d (I n)), (38, .d (I n)), (40, .d (.sl 3 (List.map e65 o1.Trials)))], [(5, .var 4 [.d (.bool false)]), (4, .var 47 [.d (.nilSl)]), (3, .var 47 [.d (.sl 1 (List.map e3 some_))]), (0, .var 83 (bkV o0B o0T o0L (.d (.nilMap)))), (1, .var 25 (cv25 o1)), (2, .var 105 [.clo 83 [] [.ptr 0 0, .ptr 1 0, .ptr 2 0]])], 6, Fr.emp, [], 3⟩ (by kernel_rfl) ?_
       refine RW.one fokW (r_lenX trivial rfl lenm (r_end ?_))
       refine RW.au fokW 1 [] ⟨[(1, .d (I many)), (3, .ptr 1 0), (4, .ptr 2 0), (5, .ptr 3 0), (7, .ptr 4 0), (8, .ptr 5 0), (9, .d (I (some_.length : Int))), (12, .d (I n)), (42, .d (.bool (decide (n < (o1.Trials.length : Int)))))], [(5, .var 4 [.d (.bool false)]), (4, .var 47 [.d (.nilSl)]), (3, .var 47 [.d (.sl 1 (List.map e3 some_))]), (0, .var 83 (bkV o0B o0T o0L (.d (.nilMap)))), (1, .var 25 (cv25 o1)), (2, .var 105 [.clo 83 [] [.ptr 0 0, .ptr 1 0, .ptr 2 0]])], 6, Fr.emp, [], 3⟩ (by kernel_rfl) ?_
       refine RW.nil ?_
       refine hQ_20 _ ?_
       refine AW.cond rfl (fun hb_21 => ?_) (fun hb_21 => False.elim (by have := of_decide_eq_false hb_21; omega))
       refine AW.skip ?_
       refine hK_19 _ ?_
       refine AW.seqK (fun K_22 hK_22 => ?_)
       refine AW.block ?_
       refine AW.sdrwK fokW (fun Q_23 hQ_23 => ?_)
       refine RunC.auX 4 ⟨[(1, .d (I many)), (3, .ptr 1 0), (4, .ptr 2 0), (5, .ptr 3 0), (7, .ptr 4 0), (8, .ptr 5 0), (9, .d (I (some_.length : Int))), (12, .d (I n)), (46, .clo 83 [] [.ptr 0 0, .ptr 1 0, .ptr 2 0]), (47, .d (.sl 1 (List.map e3 some_))), (48, .d (I (some_.length : Int))), (49, .d (I (some_.length : Int)))], [(5, .var 4 [.d (.bool false)]), (4, .var 47 [.d (.nilSl)]), (3, .var 47 [.d (.sl 1 (List.map e3 some_))]), (0, .var 83 (bkV o0B o0T o0L (.d (.nilMap)))), (1, .var 25 (cv25 o1)), (2, .var 105 [.clo 83 [] [.ptr 0 0, .ptr 1 0, .ptr 2 0]])], 6, Fr.emp, [], 3⟩ (by kernel_rfl) ?_
       obtain ⟨l, hv_24, h⟩ := bsome h
       refine r_slN trivial rfl rfl rfl DSl.d (slcL_ok hv_24).2.1 (by rw [List.length_map]; exact (slcL_ok hv_24).2.2.1) rfl (slz hv_24 e3) ?_
       refine RunC.auX 2 ⟨[(1, .d (I many)), (3, .ptr 1 0), (4, .ptr 2 0), (5, .ptr 3 0), (7, .ptr 4 0), (8, .ptr 5 0), (9, .d (I (some_.length : Int))), (12, .d (I n)), (46, .clo 83 [] [.ptr 0 0, .ptr 1 0, .ptr 2 0]), (50, .fsl 1 (List.map e3 l)), (52, .own 6 (List.map e3 [n]).length)], [(6, .row 3 1 (List.map e3 [n])), (5, .var 4 [.d (.bool false)]), (4, .var 47 [.d (.nilSl)]), (3, .var 47 [.d (.sl 1 (List.map e3 some_))]), (0, .var 83 (bkV o0B o0T o0L (.d (.nilMap)))), (1, .var 25 (cv25 o1)), (2, .var 105 [.clo 83 [] [.ptr 0 0, .ptr 1 0, .ptr 2 0]])], 7, Fr.emp, [], 3⟩ (by kernel_rfl) ?_
       obtain ⟨l1, hv_25, h⟩ := bsome h
       refine r_apF trivial rfl rfl rfl rfl (by simp) (zs := List.map e3 l1) (apz hv_25 e3) (apr hv_25 e3) ?_
       refine RunC.auX 1 ⟨[(1, .d (I many)), (3, .ptr 1 0), (4, .ptr 2 0), (5, .ptr 3 0), (7, .ptr 4 0), (8, .ptr 5 0), (9, .d (I (some_.length : Int))), (12, .d (I n)), (46, .clo 83 [] [.ptr 0 0, .ptr 1 0, .ptr 2 0]), (53, .own 7 (List.map e3 l1).length), (54, .d (I many))], [(7, .row 3 1 (List.map e3 l1)), (6, .row 3 1 (List.map e3 [n])), (5, .var 4 [.d (.bool false)]), (4, .var 47 [.d (.nilSl)]), (3, .var 47 [.d (.sl 1 (List.map e3 some_))]), (0, .var 83 (bkV o0B o0T o0L (.d (.nilMap)))), (1, .var 25 (cv25 o1)), (2, .var 105 [.clo 83 [] [.ptr 0 0, .ptr 1 0, .ptr 2 0]])], 8, Fr.emp, [], 3⟩ (by kernel_rfl) ?_
       obtain ⟨⟨r0_5_1, r1_4_1⟩, hx_26, h⟩ := bsome h
       refine r_callvE (zr := [(7, .row 3 1 (List.map e3 l1))]) [0, 1, 2] trivial rfl (.clo _ _ _) (by kernel_rfl) rfl (ih l1 many o0B o0T o0L o1 _ hx_26) ⟨rfl, rfl, rfl, rfl, trivial⟩ rfl rfl ⟨(.own rfl rfl), .refl _, .refl _, .refl _, .refl _, trivial⟩ rfl rfl rfl ?_
       refine RunC.auX 5 ⟨[(1, .d (I many)), (3, .ptr 1 0), (4, .ptr 2 0), (5, .ptr 3 0), (7, .ptr 4 0), (8, .ptr 5 0), (9, .d (I (some_.length : Int))), (12, .d (I n)), (13, .d (.sl 1 (List.map e3 r0_5_1))), (14, .d (.bool r1_4_1))], [(0, .var 83 (bkV o0B o0T o0L (.d (.nilMap)))), (1, .var 25 (cv25 o1)), (2, .var 105 [.clo 83 [] [.ptr 0 0, .ptr 1 0, .ptr 2 0]]), (7, .dead), (6, .row 3 1 (List.map e3 [n])), (5, .var 4 [.d (.bool false)]), (4, .var 47 [.d (.nilSl)]), (3, .var 47 [.d (.sl 1 (List.map e3 some_))])], 8, Fr.emp, [], 3⟩ (by kernel_rfl) ?_
       refine RunC.fin ⟨[(1, .d (I many)), (3, .ptr 1 0), (4, .ptr 2 0), (5, .ptr 3 0), (7, .ptr 4 0), (8, .ptr 5 0), (9, .d (I (some_.length : Int))), (12, .d (I n)), (13, .d (.sl 1 (List.map e3 r0_5_1))), (14, .d (.bool r1_4_1))], [(0, .var 83 (bkV o0B o0T o0L (.d (.nilMap)))), (1, .var 25 (cv25 o1)), (2, .var 105 [.clo 83 [] [.ptr 0 0, .ptr 1 0, .ptr 2 0]]), (5, .var 4 [.d (.bool false)]), (4, .var 47 [.d (.nilSl)]), (3, .var 47 [.d (.sl 1 (List.map e3 some_))])], 8, Fr.emp, [], 3⟩ (by kernel_rfl) (by kernel_rfl) ?_
       refine hQ_23 _ ?_
       refine AW.sa fokW [] ⟨[(1, .d (I many)), (3, .ptr 1 0), (4, .ptr 2 0), (5, .ptr 3 0), (7, .ptr 4 0), (8, .ptr 5 0), (9, .d (I (some_.length : Int))), (12, .d (I n)), (13, .d (.sl 1 (List.map e3 r0_5_1))), (58, .d (.bool r1_4_1))], [(0, .var 83 (bkV o0B o0T o0L (.d (.nilMap)))), (1, .var 25 (cv25 o1)), (2, .var 105 [.clo 83 [] [.ptr 0 0, .ptr 1 0, .ptr 2 0]]), (5, .var 4 [.d (.bool false)]), (4, .var 47 [.d (.nilSl)]), (3, .var 47 [.d (.sl 1 (List.map e3 some_))])], 8, Fr.emp, [], 3⟩ (by kernel_rfl) ?_
       refine AW.cond rfl (fun hb_27 => ?_) (fun hb_27 => ?_)
       ·have h := ifT hb_27 h
        refine AW.sa fokW [] ⟨[(7, .ptr 4 0), (8, .ptr 5 0)], [(5, .var 4 [.d (.bool true)]), (4, .var 47 [.d (.sl 1 (List.map e3 r0_5_1))]), (0, .var 83 (bkV o0B o0T o0L (.d (.nilMap)))), (1, .var 25 (cv25 o1)), (2, .var 105 [.clo 83 [] [.ptr 0 0, .ptr 1 0, .ptr 2 0]])], 8, Fr.emp, [], 3⟩ (by kernel_rfl) ?_
        obtain rfl := Option.some.inj h
        have e_3 := hb_18 _ rfl
        subst e_3
        obtain rfl := Aft.bk hk_18
        obtain rfl := Aft.bk hk_17
        obtain rfl := Aft.bk hk_16
        exact AW.ret (hR_0 _ (retX (.cons (.one rfl rfl rfl) (.cons (.one rfl rfl rfl) .nil)) (.refl _) rfl (by kernel_rfl) (by kernel_rfl)))
       ·have h := ifF hb_27 h
        refine AW.skip ?_
        refine hK_22 _ ?_
        refine AW.ra fokW [] ⟨[(1, .d (I many)), (3, .ptr 1 0), (4, .ptr 2 0), (5, .ptr 3 0), (7, .ptr 4 0), (8, .ptr 5 0), (9, .d (I (some_.length : Int))), (12, .d (I (wr (n + 1))))], [(0, .var 83 (bkV o0B o0T o0L (.d (.nilMap)))), (1, .var 25 (cv25 o1)), (2, .var 105 [.clo 83 [] [.ptr 0 0, .ptr 1 0, .ptr 2 0]]), (5, .var 4 [.d (.bool false)]), (4, .var 47 [.d (.nilSl)]), (3, .var 47 [.d (.sl 1 (List.map e3 some_))])], 8, Fr.emp, [], 3⟩ (by kernel_rfl) ?_
        obtain rfl := Option.some.inj h
        have ew : wr (n + 1) = n + 1 := inext (N := (o1.Trials.length : Int)) (by omega) (by omega) (by omega)
        rw [ew]
        exact hK_18 _ _ rfl (Can.kp (by kernel_rfl))
      ·subst hout
       have h := Aft.nx hk_18
       refine AW.seqK (fun K_28 hK_28 => ?_)
       refine AW.srwK (fun Q_29 hQ_29 => ?_)
       refine RW.au fokW 3 [] ⟨[(1, .d (I many)), (3, .ptr 1 0), (4, .ptr 2 0), (5, .ptr 3 0), (7, .ptr 4 0), (8, .ptr 5 0), (9, .d (I (some_.length : Int))), (12, .d (I n)), (38, .d (I n)), (40, .d (.sl 3 (List.map e65 o1.Trials)))], [(5, .var 4 [.d (.bool false)]), (4, .var 47 [.d (.nilSl)]), (3, .var 47 [.d (.sl 1 (List.map e3 some_))]), (0, .var 83 (bkV o0B o0T o0L (.d (.nilMap)))), (1, .var 25 (cv25 o1)), (2, .var 105 [.clo 83 [] [.ptr 0 0, .ptr 1 0, .ptr 2 0]])], 6, Fr.emp, [], 3⟩ (by kernel_rfl) ?_
       refine RW.one fokW (r_lenX trivial rfl lenm (r_end ?_))
       refine RW.au fokW 1 [] ⟨[(1, .d (I many)), (3, .ptr 1 0), (4, .ptr 2 0), (5, .ptr 3 0), (7, .ptr 4 0), (8, .ptr 5 0), (9, .d (I (some_.length : Int))), (12, .d (I n)), (42, .d (.bool (decide (n < (o1.Trials.length : Int)))))], [(5, .var 4 [.d (.bool false)]), (4, .var 47 [.d (.nilSl)]), (3, .var 47 [.d (.sl 1 (List.map e3 some_))]), (0, .var 83 (bkV o0B o0T o0L (.d (.nilMap)))), (1, .var 25 (cv25 o1)), (2, .var 105 [.clo 83 [] [.ptr 0 0, .ptr 1 0, .ptr 2 0]])], 6, Fr.emp, [], 3⟩ (by kernel_rfl) ?_
       refine RW.nil ?_
       refine hQ_29 _ ?_
       refine AW.cond rfl (fun hb_30 => False.elim (by have := of_decide_eq_true hb_30; omega)) (fun hb_30 => ?_)
       refine AW.exit ?_
       obtain rfl := Option.some.inj h
       exact hK_17 _ _ rfl (Can.kp (by kernel_rfl))
     ·subst hj_17
      have h := Aft.nx hk_17
      obtain rfl := Option.some.inj h
      exact hK_16 _ _ rfl (Can.kp (by kernel_rfl))
    ·subst hj_16
     have h := Aft.nx hk_16
     refine AW.sa fokW [] ⟨[(7, .ptr 4 0), (8, .ptr 5 0)], [(5, .var 4 [.d (.bool false)]), (4, .var 47 [.d (.nilSl)]), (0, .var 83 (bkV o0B o0T o0L (.d (.nilMap)))), (1, .var 25 (cv25 o1)), (2, .var 105 [.clo 83 [] [.ptr 0 0, .ptr 1 0, .ptr 2 0]])], 6, Fr.emp, [], 3⟩ (by kernel_rfl) ?_
     obtain rfl := Option.some.inj h
     exact AW.ret (hR_0 _ (retX (.cons (.one rfl rfl rfl) (.cons (.one rfl rfl rfl) .nil)) (Frz.tup_of ⟨.nil 1, .refl _, trivial⟩) rfl (by kernel_rfl) (by kernel_rfl)))
def g35_7 (x : StandBook) : Int → ((List (Nat → Int)) × Int × Int × Int) → Option (Ctl ((List (Nat → Int)) × Int × Int × Int) ((List Int) × Int)) := fun v (truths, weight, along, high) => (g83 1000 ([] : (List Int)) v x truths (Stand_load.mk weight along high) x).bind fun (r0_5, r1_4) => bif r1_4 then ((slcL r0_5 0 (r0_5.length : Int)).bind fun l => some (.brk (l, 0))) else (some (.next (truths, (Stand_load.mk weight along high).weight, (Stand_load.mk weight along high).along, (Stand_load.mk weight along high).high)))
def g35 (x : StandBook) : Option ((List Int) × Int) := (g18 x).bind fun A1 => bif (decide (A1 ≠ 0)) then (some ([], A1)) else (bindC (forC (g35_7 x) ((((wr ((x.Trials.length : Int) + 1)) : Int) - 0).toNat) 0 (([], 0, 0, 0) : (List (Nat → Int)) × Int × Int × Int)) fun (truths, weight, along, high) => some ([], 0))
theorem k35 (x : StandBook) (r : (List Int) × Int) (h : g35 x = some r) : SCall Tryd.prog Gs 35 [.agg (cv25 x)] [] 0 Fr.emp (match r with | (r0_2, r1_2) => .tup [.d (.sl 1 (List.map e3 r0_2)), .d (I r1_2)]) [] 0 Fr.emp := by
 unfold g35 at h
 refine SCall.mkK Tryd.func35 c35 rfl rfl (by kernel_rfl) (fun Q_0 hR_0 hN_0 => ?_)
 refine AW.sa fokW [] ⟨[(1, .ptr 0 0)], [(0, .var 25 (cv25 x))], 1, Fr.emp, [], 0⟩ (by kernel_rfl) ?_
 refine AW.seqK (fun K_1 hK_1 => ?_)
 refine AW.srwK (fun Q_2 hQ_2 => ?_)
 refine RW.au fokW 1 [] ⟨[(1, .ptr 0 0), (10, .agg (cv25 x))], [(0, .var 25 (cv25 x))], 1, Fr.emp, [], 0⟩ (by kernel_rfl) ?_
 obtain ⟨A1, hx_3, h⟩ := bsome h
 refine RW.one fokW (r_call trivial rfl (k18 x _ hx_3) rfl rfl (r_end ?_))
 refine RW.au fokW 1 [] ⟨[(1, .ptr 0 0), (4, .d (I A1))], [(0, .var 25 (cv25 x))], 1, Fr.emp, [], 0⟩ (by kernel_rfl) ?_
 refine RW.nil ?_
 refine hQ_2 _ ?_
 refine AW.sa fokW [] ⟨[(1, .ptr 0 0), (4, .d (I A1)), (13, .d (.bool (decide (A1 ≠ 0))))], [(0, .var 25 (cv25 x))], 1, Fr.emp, [], 0⟩ (by kernel_rfl) ?_
 refine AW.cond rfl (fun hb_4 => ?_) (fun hb_4 => ?_)
 ·have h := ifT hb_4 h
  refine AW.sa fokW [] ⟨[(2, .d (.nilSl)), (3, .d (I A1))], [], 1, Fr.emp, [], 0⟩ (by kernel_rfl) ?_
  obtain rfl := Option.some.inj h
  exact AW.ret (hR_0 _ (retX (.cons (.tmp rfl) (.cons (.tmp rfl) .nil)) (Frz.tup_of ⟨.nil 1, .refl _, trivial⟩) rfl (by kernel_rfl) (by kernel_rfl)))
 ·have h := ifF hb_4 h
  refine AW.skip ?_
  refine hK_1 _ ?_
  refine AW.sa fokW [] ⟨[(1, .ptr 0 0), (5, .ptr 1 0)], [(1, .var 83 (catV (cv25 x) [.d (.nilSl), .d (I 0), .d (I 0), .d (I 0), .d (.nilMap)])), (0, .var 25 (cv25 x))], 2, Fr.emp, [], 0⟩ (by kernel_rfl) ?_
  refine AW.sa fokW [] ⟨[(1, .ptr 0 0), (5, .ptr 1 0), (6, .ptr 2 0)], [(2, .var 105 [.d (.nilFn)]), (1, .var 83 (catV (cv25 x) [.d (.nilSl), .d (I 0), .d (I 0), .d (I 0), .d (.nilMap)])), (0, .var 25 (cv25 x))], 3, Fr.emp, [], 0⟩ (by kernel_rfl) ?_
  refine AW.sa fokW [] ⟨[(1, .ptr 0 0), (6, .ptr 2 0)], [(2, .var 105 [.clo 83 [] [.ptr 1 0, .ptr 0 0, .ptr 2 0]]), (1, .var 83 (catV (cv25 x) [.d (.nilSl), .d (I 0), .d (I 0), .d (I 0), .d (.nilMap)])), (0, .var 25 (cv25 x))], 3, Fr.emp, [], 0⟩ (by kernel_rfl) ?_
  refine AW.seqK (fun K_5 hK_5 => ?_)
  refine AW.srwK (fun Q_6 hQ_6 => ?_)
  refine RW.au fokW 2 [] ⟨[(6, .ptr 2 0), (19, .d (.sl 3 (List.map e65 x.Trials)))], [(2, .var 105 [.clo 83 [] [.ptr 1 0, .ptr 0 0, .ptr 2 0]]), (1, .var 83 (catV (cv25 x) [.d (.nilSl), .d (I 0), .d (I 0), .d (I 0), .d (.nilMap)])), (0, .var 25 (cv25 x))], 3, Fr.emp, [], 0⟩ (by kernel_rfl) ?_
  refine RW.one fokW (r_lenX trivial rfl lenm (r_end ?_))
  refine RW.au fokW 2 [] ⟨[(6, .ptr 2 0), (21, .d (I (wr ((x.Trials.length : Int) + 1)))), (22, .d (I 0))], [(2, .var 105 [.clo 83 [] [.ptr 1 0, .ptr 0 0, .ptr 2 0]]), (1, .var 83 (catV (cv25 x) [.d (.nilSl), .d (I 0), .d (I 0), .d (I 0), .d (.nilMap)])), (0, .var 25 (cv25 x))], 3, Fr.emp, [], 0⟩ (by kernel_rfl) ?_
  refine RW.nil ?_
  refine hQ_6 _ ?_
  refine AW.block ?_
  have hN_7 : (wr ((x.Trials.length : Int) + 1)) ≤ 9223372036854775807 := (wr_range _).2
  obtain ⟨out_7, hx_7, hk_7⟩ := bsomeC h
  refine AW.lpCK (fun (v : Int) (⟨truths, weight, along, high⟩ : (List (Nat → Int)) × Int × Int × Int) => ⟨[(6, .ptr 2 0), (21, .d (I (wr ((x.Trials.length : Int) + 1)))), (22, .d (I v))], [(2, .var 105 [.clo 83 [] [.ptr 1 0, .ptr 0 0, .ptr 2 0]]), (1, .var 83 (catV (cv25 x) [.d (.sl 4 (List.map e92 truths)), .d (I weight), .d (I along), .d (I high), .d (.nilMap)])), (0, .var 25 (cv25 x))], 3, Fr.emp, [], 0⟩) (g35_7 x) ((wr ((x.Trials.length : Int) + 1))) hx_7 (Can.trans (Can.wkH 1 10 4 rfl rfl) (Can.kp (by kernel_rfl))) (fun v s_7 hi_7 hl_7 c_7 h hb_7 K_7 hK_7 => ?_) (fun v s_7 hi_7 hl_7 hout => ?_)
  ·obtain ⟨truths, weight, along, high⟩ := s_7
   unfold g35_7 at h
   refine AW.sa fokW [] ⟨[(6, .ptr 2 0), (21, .d (I (wr ((x.Trials.length : Int) + 1)))), (22, .d (I v)), (23, .d (.bool (decide (v < (wr ((x.Trials.length : Int) + 1))))))], [(2, .var 105 [.clo 83 [] [.ptr 1 0, .ptr 0 0, .ptr 2 0]]), (1, .var 83 (catV (cv25 x) [.d (.sl 4 (List.map e92 truths)), .d (I weight), .d (I along), .d (I high), .d (.nilMap)])), (0, .var 25 (cv25 x))], 3, Fr.emp, [], 0⟩ (by kernel_rfl) ?_
   refine AW.seqK (fun K_8 hK_8 => ?_)
   refine AW.cond rfl (fun hb_9 => ?_) (fun hb_9 => False.elim (by have := of_decide_eq_false hb_9; omega))
   refine AW.skip ?_
   refine hK_8 _ ?_
   refine AW.seqK (fun K_10 hK_10 => ?_)
   refine AW.block ?_
   refine AW.sa fokW [] ⟨[(6, .ptr 2 0), (7, .d (I v)), (21, .d (I (wr ((x.Trials.length : Int) + 1)))), (22, .d (I v))], [(2, .var 105 [.clo 83 [] [.ptr 1 0, .ptr 0 0, .ptr 2 0]]), (1, .var 83 (catV (cv25 x) [.d (.sl 4 (List.map e92 truths)), .d (I weight), .d (I along), .d (I high), .d (.nilMap)])), (0, .var 25 (cv25 x))], 3, Fr.emp, [], 0⟩ (by kernel_rfl) ?_
   refine AW.srwK (fun Q_11 hQ_11 => ?_)
   refine RW.au fokW 2 [] ⟨[(6, .ptr 2 0), (21, .d (I (wr ((x.Trials.length : Int) + 1)))), (22, .d (I v)), (26, .clo 83 [] [.ptr 1 0, .ptr 0 0, .ptr 2 0]), (27, .d (I v))], [(2, .var 105 [.clo 83 [] [.ptr 1 0, .ptr 0 0, .ptr 2 0]]), (1, .var 83 (catV (cv25 x) [.d (.sl 4 (List.map e92 truths)), .d (I weight), .d (I along), .d (I high), .d (.nilMap)])), (0, .var 25 (cv25 x))], 3, Fr.emp, [], 0⟩ (by kernel_rfl) ?_
   obtain ⟨⟨r0_5, r1_4⟩, hx_12, h⟩ := bsome h
   refine RW.one fokW (r_callvE (zr := []) [1, 0, 2] trivial rfl (.clo _ _ _) (by kernel_rfl) rfl (k83 1000 ([] : (List Int)) v x truths (Stand_load.mk weight along high) x _ hx_12) ⟨rfl, rfl, rfl, trivial⟩ rfl rfl ⟨(.nil 1), .refl _, .refl _, .refl _, .refl _, trivial⟩ rfl rfl rfl (r_end ?_))
   refine RW.au fokW 5 [] ⟨[(6, .ptr 2 0), (8, .d (.sl 1 (List.map e3 r0_5))), (9, .d (.bool r1_4)), (21, .d (I (wr ((x.Trials.length : Int) + 1)))), (22, .d (I v))], [(1, .var 83 (catV (cv25 x) [.d (.sl 4 (List.map e92 truths)), .d (I ((Stand_load.mk weight along high).weight)), .d (I ((Stand_load.mk weight along high).along)), .d (I ((Stand_load.mk weight along high).high)), .d (.nilMap)])), (0, .var 25 (cv25 x)), (2, .var 105 [.clo 83 [] [.ptr 1 0, .ptr 0 0, .ptr 2 0]])], 3, Fr.emp, [], 0⟩ (by kernel_rfl) ?_
   refine RW.nil ?_
   refine hQ_11 _ ?_
   refine AW.sa fokW [] ⟨[(6, .ptr 2 0), (8, .d (.sl 1 (List.map e3 r0_5))), (21, .d (I (wr ((x.Trials.length : Int) + 1)))), (22, .d (I v)), (31, .d (.bool r1_4))], [(1, .var 83 (catV (cv25 x) [.d (.sl 4 (List.map e92 truths)), .d (I ((Stand_load.mk weight along high).weight)), .d (I ((Stand_load.mk weight along high).along)), .d (I ((Stand_load.mk weight along high).high)), .d (.nilMap)])), (0, .var 25 (cv25 x)), (2, .var 105 [.clo 83 [] [.ptr 1 0, .ptr 0 0, .ptr 2 0]])], 3, Fr.emp, [], 0⟩ (by kernel_rfl) ?_
   refine AW.cond rfl (fun hb_13 => ?_) (fun hb_13 => ?_)
   ·have h := ifT hb_13 h
    refine AW.srwK (fun Q_14 hQ_14 => ?_)
    refine RW.au fokW 2 [] ⟨[(8, .d (.sl 1 (List.map e3 r0_5))), (32, .d (.sl 1 (List.map e3 r0_5))), (33, .d (.sl 1 (List.map e3 r0_5)))], [], 3, Fr.emp, [], 0⟩ (by kernel_rfl) ?_
    refine RW.one fokW (r_lenX trivial rfl lenm (r_end ?_))
    refine RW.au fokW 1 [] ⟨[(32, .d (.sl 1 (List.map e3 r0_5))), (34, .d (I (r0_5.length : Int))), (35, .d (.sl 1 (List.map e3 r0_5)))], [], 3, Fr.emp, [], 0⟩ (by kernel_rfl) ?_
    refine RW.one fokW (r_lenX trivial rfl lenm (r_end ?_))
    obtain ⟨l, hv_15, h⟩ := bsome h
    refine RW.one fokW (r_slN trivial rfl rfl rfl DSl.d (slcL_ok hv_15).2.1 (by rw [List.length_map]; exact (slcL_ok hv_15).2.2.1) rfl (slz hv_15 e3) (r_end ?_))
    refine RW.au fokW 2 [] ⟨[(2, .fsl 1 (List.map e3 l)), (3, .d (I 0))], [], 3, Fr.emp, [], 0⟩ (by kernel_rfl) ?_
    refine RW.nil ?_
    refine hQ_14 _ ?_
    obtain rfl := Option.some.inj h
    have e_1 := hb_7 _ rfl
    subst e_1
    obtain rfl := Aft.bk hk_7
    exact AW.ret (hR_0 _ (retX (.cons (.tmp rfl) (.cons (.tmp rfl) .nil)) (Frz.tup_of ⟨.fsl _ _, .refl _, trivial⟩) rfl (by kernel_rfl) (by kernel_rfl)))
   ·have h := ifF hb_13 h
    refine AW.skip ?_
    refine hK_10 _ ?_
    refine AW.ra fokW [] ⟨[(6, .ptr 2 0), (21, .d (I (wr ((x.Trials.length : Int) + 1)))), (22, .d (I (wr (v + 1))))], [(1, .var 83 (catV (cv25 x) [.d (.sl 4 (List.map e92 truths)), .d (I ((Stand_load.mk weight along high).weight)), .d (I ((Stand_load.mk weight along high).along)), .d (I ((Stand_load.mk weight along high).high)), .d (.nilMap)])), (0, .var 25 (cv25 x)), (2, .var 105 [.clo 83 [] [.ptr 1 0, .ptr 0 0, .ptr 2 0]])], 3, Fr.emp, [], 0⟩ (by kernel_rfl) ?_
    obtain rfl := Option.some.inj h
    have ew : wr (v + 1) = v + 1 := inext (N := (wr ((x.Trials.length : Int) + 1))) (by omega) (by omega) (by omega)
    rw [ew]
    exact hK_7 _ _ rfl (Can.kp (by kernel_rfl))
  ·obtain ⟨truths, weight, along, high⟩ := s_7
   subst hout
   have h := Aft.nx hk_7
   refine AW.sa fokW [] ⟨[(6, .ptr 2 0), (21, .d (I (wr ((x.Trials.length : Int) + 1)))), (22, .d (I v)), (23, .d (.bool (decide (v < (wr ((x.Trials.length : Int) + 1))))))], [(2, .var 105 [.clo 83 [] [.ptr 1 0, .ptr 0 0, .ptr 2 0]]), (1, .var 83 (catV (cv25 x) [.d (.sl 4 (List.map e92 truths)), .d (I weight), .d (I along), .d (I high), .d (.nilMap)])), (0, .var 25 (cv25 x))], 3, Fr.emp, [], 0⟩ (by kernel_rfl) ?_
   refine AW.seqK (fun K_16 hK_16 => ?_)
   refine AW.cond rfl (fun hb_17 => False.elim (by have := of_decide_eq_true hb_17; omega)) (fun hb_17 => ?_)
   refine AW.exit ?_
   refine hK_5 _ ?_
   refine AW.sa fokW [] ⟨[(2, .d (.nilSl)), (3, .d (I 0))], [], 3, Fr.emp, [], 0⟩ (by kernel_rfl) ?_
   obtain rfl := Option.some.inj h
   exact AW.ret (hR_0 _ (retX (.cons (.tmp rfl) (.cons (.tmp rfl) .nil)) (Frz.tup_of ⟨.nil 1, .refl _, trivial⟩) rfl (by kernel_rfl) (by kernel_rfl)))
def g25 (x : StandBook) (weight : Int) : Option (Bool × Int) := (g68 x weight).bind fun r0_1 => (g67 x r0_1).bind fun r_11 => match r_11 with | .next (r0B5, r0T5, r0L5, r1_2) => (must (decide (r1_2 ≠ 0))).bind fun _ => some (false, r1_2) | .brk (r0B6, r0T6, r0L6, r1_3, m4_1) => bif (decide (r1_3 ≠ 0)) then (some (false, r1_3)) else ((g76a r0B6 r0T6 r0L6 weight m4_1).bind fun (r0, m0_1) => some (r0, 0))
theorem k25 (x : StandBook) (weight : Int) (r : Bool × Int) (h : g25 x weight = some r) : SCall Tryd.prog Gs 25 [.agg (cv25 x), .d (I weight)] [] 0 Fr.emp (match r with | (r0_4, r1_4) => .tup [.d (.bool r0_4), .d (I r1_4)]) [] 0 Fr.emp := by
 unfold g25 at h
 refine SCall.mkK Tryd.func25 c25 rfl rfl (by kernel_rfl) (fun Q_0 hR_0 hN_0 => ?_)
 refine AW.sa fokW [] ⟨[(1, .d (I weight)), (2, .ptr 0 0)], [(0, .var 25 (cv25 x))], 1, Fr.emp, [], 0⟩ (by kernel_rfl) ?_
 refine AW.sdrwK fokW (fun Q_1 hQ_1 => ?_)
 refine RunC.auX 3 ⟨[(1, .d (I weight)), (9, .agg (cv25 x)), (10, .agg (cv25 x)), (11, .d (I weight))], [(0, .var 25 (cv25 x))], 1, Fr.emp, [], 0⟩ (by kernel_rfl) ?_
 obtain ⟨r0_1, hx_2, h⟩ := bsome h
 refine r_call trivial rfl (k68 x weight _ hx_2) rfl rfl ?_
 obtain ⟨r_11, hx_3, h⟩ := bsome h
 rcases r_11 with (⟨r0B5, r0T5, r0L5, r1_2⟩ | (⟨r0B6, r0T6, r0L6, r1_3, m4_1⟩))
 ·refine r_callS (zr := []) [] trivial rfl (k67 x r0_1 _ hx_3) trivial rfl rfl ⟨.refl _, .refl _, trivial⟩ rfl rfl rfl ?_
  obtain ⟨_, hv_4, h⟩ := bsome h
  have hf_5 := must_ok hv_4
  refine RunC.auX 6 ⟨[(1, .d (I weight)), (6, .ptr 1 0), (7, .d (I r1_2))], [(1, .var 83 (bkV r0B5 r0T5 r0L5 (.d (.nilMap)))), (0, .var 25 (cv25 x))], 2, Fr.emp, [], 0⟩ (by kernel_rfl) ?_
  refine RunC.fin ⟨[(1, .d (I weight)), (6, .ptr 1 0), (7, .d (I r1_2))], [(1, .var 83 (bkV r0B5 r0T5 r0L5 (.d (.nilMap))))], 2, Fr.emp, [], 0⟩ (by kernel_rfl) (by kernel_rfl) ?_
  refine hQ_1 _ ?_
  refine AW.seqK (fun K_6 hK_6 => ?_)
  refine AW.sa fokW [] ⟨[(1, .d (I weight)), (6, .ptr 1 0), (7, .d (I r1_2)), (17, .d (.bool (decide (r1_2 ≠ 0))))], [(1, .var 83 (bkV r0B5 r0T5 r0L5 (.d (.nilMap))))], 2, Fr.emp, [], 0⟩ (by kernel_rfl) ?_
  refine AW.cond rfl (fun hb_7 => ?_) (fun hb_7 => False.elim (by rw [hf_5] at hb_7; cases hb_7))
  refine AW.sa fokW [] ⟨[(4, .d (.bool false)), (5, .d (I r1_2))], [], 2, Fr.emp, [], 0⟩ (by kernel_rfl) ?_
  obtain rfl := Option.some.inj h
  exact AW.ret (hR_0 _ (retX (.cons (.tmp rfl) (.cons (.tmp rfl) .nil)) (.refl _) rfl (by kernel_rfl) (by kernel_rfl)))
 ·refine r_callS (zr := []) [] trivial rfl (k67 x r0_1 _ hx_3) trivial rfl rfl ⟨.refl _, .refl _, trivial⟩ rfl rfl rfl ?_
  refine RunC.auX 6 ⟨[(1, .d (I weight)), (6, .ptr 6 0), (7, .d (I r1_3))], [(6, .var 83 (bkV r0B6 r0T6 r0L6 (.map 5))), (5, .mp (List.map m94_34 m4_1)), (0, .var 25 (cv25 x))], 7, Fr.emp, [], 0⟩ (by kernel_rfl) ?_
  refine RunC.fin ⟨[(1, .d (I weight)), (6, .ptr 6 0), (7, .d (I r1_3))], [(6, .var 83 (bkV r0B6 r0T6 r0L6 (.map 5))), (5, .mp (List.map m94_34 m4_1))], 7, Fr.emp, [], 0⟩ (by kernel_rfl) (by kernel_rfl) ?_
  refine hQ_1 _ ?_
  refine AW.seqK (fun K_8 hK_8 => ?_)
  refine AW.sa fokW [] ⟨[(1, .d (I weight)), (6, .ptr 6 0), (7, .d (I r1_3)), (17, .d (.bool (decide (r1_3 ≠ 0))))], [(6, .var 83 (bkV r0B6 r0T6 r0L6 (.map 5))), (5, .mp (List.map m94_34 m4_1))], 7, Fr.emp, [], 0⟩ (by kernel_rfl) ?_
  refine AW.cond rfl (fun hb_9 => ?_) (fun hb_9 => ?_)
  ·have h := ifT hb_9 h
   refine AW.sa fokW [] ⟨[(4, .d (.bool false)), (5, .d (I r1_3))], [], 7, Fr.emp, [], 0⟩ (by kernel_rfl) ?_
   obtain rfl := Option.some.inj h
   exact AW.ret (hR_0 _ (retX (.cons (.tmp rfl) (.cons (.tmp rfl) .nil)) (.refl _) rfl (by kernel_rfl) (by kernel_rfl)))
  ·have h := ifF hb_9 h
   refine AW.skip ?_
   refine hK_8 _ ?_
   refine AW.srwK (fun Q_10 hQ_10 => ?_)
   refine RW.au fokW 2 [] ⟨[(19, .agg [.d (I r0B6.Kind), .d (I r0B6.Front), .d (I r0B6.Back), .d (I r0B6.Radius), .d (.sl 4 (List.map e70 r0B6.Parts)), .d (I r0B6.Along), .d (I r0B6.High), .d (I r0B6.Lean_), .d (I r0B6.Limit), .d (.sl 3 (List.map e65 r0B6.Trials)), .d (.sl 4 (List.map e92 r0T6)), .d (I r0L6.weight), .d (I r0L6.along), .d (I r0L6.high), .map 5]), (20, .d (I weight))], [(5, .mp (List.map m94_34 m4_1))], 7, Fr.emp, [], 0⟩ (by kernel_rfl) ?_
   obtain ⟨⟨r0, m0_1⟩, hx_11, h⟩ := bsome h
   refine RW.one fokW (r_callS (zr := []) [5] trivial rfl (k76a r0B6 r0T6 r0L6 weight m4_1 _ hx_11) ⟨rfl, trivial⟩ rfl rfl ⟨.refl _, .refl _, trivial⟩ rfl rfl rfl (r_end ?_))
   refine RW.au fokW 2 [] ⟨[(4, .d (.bool r0)), (5, .d (I 0))], [], 7, Fr.emp, [], 0⟩ (by kernel_rfl) ?_
   refine RW.nil ?_
   refine hQ_10 _ ?_
   obtain rfl := Option.some.inj h
   exact AW.ret (hR_0 _ (retX (.cons (.tmp rfl) (.cons (.tmp rfl) .nil)) (.refl _) rfl (by kernel_rfl) (by kernel_rfl)))
def g56  : Option StandBook := (g55).bind fun r0 => some (StandBook.mk 1 12 12 60 r0.Parts r0.Along r0.High r0.Lean_ r0.Limit r0.Trials)
theorem k56  (r : StandBook) (h : g56 = some r) : SCall Tryd.prog Gs 56 [] [] 0 Fr.emp (.agg (cv25 r)) [] 0 Fr.emp := by
 unfold g56 at h
 refine SCall.mkK Tryd.func56 c56 rfl rfl (by kernel_rfl) (fun Q_0 hR_0 hN_0 => ?_)
 refine AW.sa fokW [] ⟨[(0, .ptr 0 0)], [(0, .var 25 [.d (I 0), .d (I 0), .d (I 0), .d (I 0), .d (.nilSl), .d (I 0), .d (I 0), .d (I 0), .d (I 0), .d (.nilSl)])], 1, Fr.emp, [], 0⟩ (by kernel_rfl) ?_
 refine AW.srwK (fun Q_1 hQ_1 => ?_)
 obtain ⟨r0, hx_2, h⟩ := bsome h
 refine RW.one fokW (r_call trivial rfl (k55 _ hx_2) rfl rfl (r_end ?_))
 refine RW.au fokW 2 [] ⟨[(0, .ptr 0 0), (1, .ptr 1 0)], [(1, .var 25 (cv25 r0)), (0, .var 25 [.d (I 0), .d (I 0), .d (I 0), .d (I 0), .d (.nilSl), .d (I 0), .d (I 0), .d (I 0), .d (I 0), .d (.nilSl)])], 2, Fr.emp, [], 0⟩ (by kernel_rfl) ?_
 refine RW.nil ?_
 refine hQ_1 _ ?_
 refine AW.sa fokW [] ⟨[(0, .ptr 0 0), (1, .ptr 1 0)], [(1, .var 25 [.d (I 1), .d (I 12), .d (I 12), .d (I 60), .d (.sl 4 (List.map e70 r0.Parts)), .d (I r0.Along), .d (I r0.High), .d (I r0.Lean_), .d (I r0.Limit), .d (.sl 3 (List.map e65 r0.Trials))]), (0, .var 25 [.d (I 0), .d (I 0), .d (I 0), .d (I 0), .d (.nilSl), .d (I 0), .d (I 0), .d (I 0), .d (I 0), .d (.nilSl)])], 2, Fr.emp, [], 0⟩ (by kernel_rfl) ?_
 refine AW.sa fokW [] ⟨[(0, .ptr 0 0)], [(0, .var 25 [.d (I 1), .d (I 12), .d (I 12), .d (I 60), .d (.sl 4 (List.map e70 r0.Parts)), .d (I r0.Along), .d (I r0.High), .d (I r0.Lean_), .d (I r0.Limit), .d (.sl 3 (List.map e65 r0.Trials))])], 2, Fr.emp, [], 0⟩ (by kernel_rfl) ?_
 obtain rfl := Option.some.inj h
 exact AW.ret (hR_0 _ (retX (.cons (.agg rfl rfl (Nat.le_of_ble_eq_true rfl)) .nil) (.refl _) rfl (by kernel_rfl) (by kernel_rfl)))
end Go.Proofs.Tz
