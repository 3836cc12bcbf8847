/- Told functions, and that the program does so, part 3. Conditions: none. -/
import Derived.Test.YtibenpfnlajakaaDoorTdb
set_option linter.unusedVariables false
set_option linter.unusedSimpArgs false
namespace Go.Proofs.Tz
open Go Go.Abs Go.Proofs
def g73a_8 (b_StandBook : StandBook) (b_truths : (List (Nat → Int))) (b_lead : Stand_load) (c : Stand_child) : Int → (Nat → Int) → (Int × Int) → Option (Int × Int) := fun v p (Top, Bottom) => (g95 b_StandBook b_truths b_lead p c).bind fun r0 => ((ixN 2 b_StandBook.Kind).bind fun j => match j with | 0 => (g121 b_StandBook b_truths b_lead r0).bind fun r0_1 => some r0_1 | 1 => (g122 b_StandBook b_truths b_lead r0).bind fun r0_1_1 => some r0_1_1 | _ => none).bind fun Top1 => (bif (decide (v = 0)) then (some true) else ((g103 (StandRatio.mk Top1 r0.weight) (StandRatio.mk Top Bottom)).bind fun r0_2 => some r0_2)).bind fun v1 => bif v1 then (some (Top1, r0.weight)) else (some (Top, Bottom))
def g73a (b_StandBook : StandBook) (b_truths : (List (Nat → Int))) (b_lead : Stand_load) (c : Stand_child) (m0 : List (Stand_child × StandRatio)) : Option (StandRatio × (List (Stand_child × StandRatio))) := bif (mget q94 m0 c).isSome then (some (((mget q94 m0 c).getD (StandRatio.mk 0 0)), m0)) else ((g96).bind fun _ => (eachS (g73a_8 b_StandBook b_truths b_lead c) b_truths 0 (0, 0)).bind fun (Top, Bottom) => (g97 (StandRatio.mk Top Bottom)).bind fun r0_3 => (mput q94 m0 c r0_3).bind fun m => some (((mget q94 m c).getD (StandRatio.mk 0 0)), m))
theorem k73a (b_StandBook : StandBook) (b_truths : (List (Nat → Int))) (b_lead : Stand_load) (c : Stand_child) (m0 : List (Stand_child × StandRatio)) (r : StandRatio × (List (Stand_child × StandRatio))) (h : g73a b_StandBook b_truths b_lead c m0 = some r) : SCall Tryd.prog Gs 73 [.agg [.d (I b_StandBook.Kind), .d (I b_StandBook.Front), .d (I b_StandBook.Back), .d (I b_StandBook.Radius), .d (.sl 4 (List.map e70 b_StandBook.Parts)), .d (I b_StandBook.Along), .d (I b_StandBook.High), .d (I b_StandBook.Lean_), .d (I b_StandBook.Limit), .d (.sl 3 (List.map e65 b_StandBook.Trials)), .d (.sl 4 (List.map e92 b_truths)), .d (I b_lead.weight), .d (I b_lead.along), .d (I b_lead.high), .map 0], .agg [.d (I c.weight), .d (I c.lean)]] [(0, .mp (List.map m94_34 m0))] 1 Fr.emp (match r with | (r0_5, m0_2) => .agg [.d (I r0_5.Top), .d (I r0_5.Bottom)]) (match r with | (r0_5, m0_2) => [(0, .mp (List.map m94_34 m0_2))]) 1 Fr.emp := by
  unfold g73a at h
  refine SCall.mkK Tryd.func73 c73 rfl rfl (by kernel_rfl) (fun Q_0 hR_0 hN_0 => ?_)
  refine AW.sa fokW [] ⟨[(2, .ptr 1 0), (3, .ptr 2 0), (4, .ptr 3 0)], [(3, .var 34 [.d (I 0), .d (I 0)]), (2, .var 94 [.d (I c.weight), .d (I c.lean)]), (1, .var 83 (catV (cv25 b_StandBook) [.d (.sl 4 (List.map e92 b_truths)), .d (I b_lead.weight), .d (I b_lead.along), .d (I b_lead.high), .map 0])), (0, .mp (List.map m94_34 m0))], 4, Fr.emp, [], 1⟩ (by kernel_rfl) ?_
  refine AW.seqK (fun K_1 hK_1 => ?_)
  refine AW.srwK (fun Q_2 hQ_2 => ?_)
  refine RW.au fokW 3 [] ⟨[(2, .ptr 1 0), (3, .ptr 2 0), (4, .ptr 3 0), (15, .map 0), (16, .agg [.d (I c.weight), .d (I c.lean)])], [(3, .var 34 [.d (I 0), .d (I 0)]), (2, .var 94 [.d (I c.weight), .d (I c.lean)]), (1, .var 83 (catV (cv25 b_StandBook) [.d (.sl 4 (List.map e92 b_truths)), .d (I b_lead.weight), .d (I b_lead.along), .d (I b_lead.high), .map 0])), (0, .mp (List.map m94_34 m0))], 4, Fr.emp, [], 1⟩ (by kernel_rfl) ?_
  refine RW.one fokW (r_lookA q94 e94 e34 m0 c (StandRatio.mk 0 0) trivial rfl rfl rfl ft94 q94_ok (fun _ => rfl) rfl (r_end ?_))
  refine RW.au fokW 6 [] ⟨[(2, .ptr 1 0), (3, .ptr 2 0), (4, .ptr 3 0), (5, .ptr 4 0), (6, .d (.bool ((mget q94 m0 c).isSome)))], [(4, .var 34 [.d (I (((mget q94 m0 c).getD (StandRatio.mk 0 0)).Top)), .d (I (((mget q94 m0 c).getD (StandRatio.mk 0 0)).Bottom))]), (3, .var 34 [.d (I 0), .d (I 0)]), (2, .var 94 [.d (I c.weight), .d (I c.lean)]), (1, .var 83 (catV (cv25 b_StandBook) [.d (.sl 4 (List.map e92 b_truths)), .d (I b_lead.weight), .d (I b_lead.along), .d (I b_lead.high), .map 0])), (0, .mp (List.map m94_34 m0))], 5, Fr.emp, [], 1⟩ (by kernel_rfl) ?_
  refine RW.nil ?_
  refine hQ_2 _ ?_
  refine AW.sa fokW [] ⟨[(2, .ptr 1 0), (3, .ptr 2 0), (4, .ptr 3 0), (5, .ptr 4 0), (20, .d (.bool ((mget q94 m0 c).isSome)))], [(4, .var 34 [.d (I (((mget q94 m0 c).getD (StandRatio.mk 0 0)).Top)), .d (I (((mget q94 m0 c).getD (StandRatio.mk 0 0)).Bottom))]), (3, .var 34 [.d (I 0), .d (I 0)]), (2, .var 94 [.d (I c.weight), .d (I c.lean)]), (1, .var 83 (catV (cv25 b_StandBook) [.d (.sl 4 (List.map e92 b_truths)), .d (I b_lead.weight), .d (I b_lead.along), .d (I b_lead.high), .map 0])), (0, .mp (List.map m94_34 m0))], 5, Fr.emp, [], 1⟩ (by kernel_rfl) ?_
  refine AW.cond rfl (fun hb_3 => ?_) (fun hb_3 => ?_)
  · have h := ifT hb_3 h
    refine AW.sa fokW [] ⟨[(4, .ptr 3 0)], [(3, .var 34 [.d (I (((mget q94 m0 c).getD (StandRatio.mk 0 0)).Top)), .d (I (((mget q94 m0 c).getD (StandRatio.mk 0 0)).Bottom))]), (0, .mp (List.map m94_34 m0))], 5, Fr.emp, [], 1⟩ (by kernel_rfl) ?_
    obtain rfl := Option.some.inj h
    exact AW.ret (hR_0 _ (retX (.cons (.agg rfl rfl (Nat.le_of_ble_eq_true rfl)) .nil) (.refl _) rfl (by kernel_rfl) (by kernel_rfl)))
  · have h := ifF hb_3 h
    refine AW.skip ?_
    refine hK_1 _ ?_
    refine AW.sa fokW [] ⟨[(2, .ptr 1 0), (3, .ptr 2 0), (4, .ptr 3 0), (7, .ptr 5 0)], [(5, .var 34 [.d (I 0), .d (I 0)]), (3, .var 34 [.d (I 0), .d (I 0)]), (2, .var 94 [.d (I c.weight), .d (I c.lean)]), (1, .var 83 (catV (cv25 b_StandBook) [.d (.sl 4 (List.map e92 b_truths)), .d (I b_lead.weight), .d (I b_lead.along), .d (I b_lead.high), .map 0])), (0, .mp (List.map m94_34 m0))], 6, Fr.emp, [], 1⟩ (by kernel_rfl) ?_
    refine AW.srwK (fun Q_4 hQ_4 => ?_)
    obtain ⟨⟨⟩, hx_5, h⟩ := bsome h
    refine RW.one fokW (r_call trivial rfl (k96 _ hx_5) rfl rfl (r_end ?_))
    refine RW.au fokW 2 [] ⟨[(2, .ptr 1 0), (3, .ptr 2 0), (4, .ptr 3 0), (7, .ptr 5 0), (8, .ptr 6 0)], [(6, .var 123 [.d (.fn 103)]), (5, .var 34 [.d (I 0), .d (I 0)]), (3, .var 34 [.d (I 0), .d (I 0)]), (2, .var 94 [.d (I c.weight), .d (I c.lean)]), (1, .var 83 (catV (cv25 b_StandBook) [.d (.sl 4 (List.map e92 b_truths)), .d (I b_lead.weight), .d (I b_lead.along), .d (I b_lead.high), .map 0])), (0, .mp (List.map m94_34 m0))], 7, Fr.emp, [], 1⟩ (by kernel_rfl) ?_
    refine RW.nil ?_
    refine hQ_4 _ ?_
    refine AW.seqK (fun K_6 hK_6 => ?_)
    refine AW.srwK (fun Q_7 hQ_7 => ?_)
    refine RW.au fokW 2 [] ⟨[(2, .ptr 1 0), (3, .ptr 2 0), (4, .ptr 3 0), (7, .ptr 5 0), (8, .ptr 6 0), (24, .d (.sl 4 (List.map e92 b_truths)))], [(6, .var 123 [.d (.fn 103)]), (5, .var 34 [.d (I 0), .d (I 0)]), (3, .var 34 [.d (I 0), .d (I 0)]), (2, .var 94 [.d (I c.weight), .d (I c.lean)]), (1, .var 83 (catV (cv25 b_StandBook) [.d (.sl 4 (List.map e92 b_truths)), .d (I b_lead.weight), .d (I b_lead.along), .d (I b_lead.high), .map 0])), (0, .mp (List.map m94_34 m0))], 7, Fr.emp, [], 1⟩ (by kernel_rfl) ?_
    refine RW.one fokW (r_lenX trivial rfl lenm (r_end ?_))
    refine RW.au fokW 1 [] ⟨[(2, .ptr 1 0), (3, .ptr 2 0), (4, .ptr 3 0), (7, .ptr 5 0), (8, .ptr 6 0), (24, .d (.sl 4 (List.map e92 b_truths))), (25, .d (I (b_truths.length : Int))), (26, .d (I 0))], [(6, .var 123 [.d (.fn 103)]), (5, .var 34 [.d (I 0), .d (I 0)]), (3, .var 34 [.d (I 0), .d (I 0)]), (2, .var 94 [.d (I c.weight), .d (I c.lean)]), (1, .var 83 (catV (cv25 b_StandBook) [.d (.sl 4 (List.map e92 b_truths)), .d (I b_lead.weight), .d (I b_lead.along), .d (I b_lead.high), .map 0])), (0, .mp (List.map m94_34 m0))], 7, Fr.emp, [], 1⟩ (by kernel_rfl) ?_
    refine RW.nil ?_
    refine hQ_7 _ ?_
    refine AW.block ?_
    refine AW.sln (t := 24) rfl (fun hN_8 => ?_)
    rw [List.length_map] at hN_8
    obtain ⟨out_8, hx_8, h⟩ := bsome h
    refine AW.evSK (fun (v : Int) (⟨Top, Bottom⟩ : Int × Int) => ⟨[(2, .ptr 1 0), (3, .ptr 2 0), (4, .ptr 3 0), (7, .ptr 5 0), (8, .ptr 6 0), (24, .d (.sl 4 (List.map e92 b_truths))), (25, .d (I (b_truths.length : Int))), (26, .d (I v))], [(6, .var 123 [.d (.fn 103)]), (5, .var 34 [.d (I Top), .d (I Bottom)]), (3, .var 34 [.d (I 0), .d (I 0)]), (2, .var 94 [.d (I c.weight), .d (I c.lean)]), (1, .var 83 (catV (cv25 b_StandBook) [.d (.sl 4 (List.map e92 b_truths)), .d (I b_lead.weight), .d (I b_lead.along), .d (I b_lead.high), .map 0])), (0, .mp (List.map m94_34 m0))], 7, Fr.emp, [], 1⟩) (g73a_8 b_StandBook b_truths b_lead c) hx_8 (Can.kp (by kernel_rfl)) (fun v p s_8 hi_8 hl_8 hp_8 c_8 h K_8 hK_8 => ?_) (fun v s_8 hi_8 hl_8 hout => ?_)
    · obtain ⟨Top, Bottom⟩ := s_8
      unfold g73a_8 at h
      refine AW.sa fokW [] ⟨[(2, .ptr 1 0), (3, .ptr 2 0), (4, .ptr 3 0), (7, .ptr 5 0), (8, .ptr 6 0), (24, .d (.sl 4 (List.map e92 b_truths))), (25, .d (I (b_truths.length : Int))), (26, .d (I v)), (27, .d (.bool (decide (v < (b_truths.length : Int)))))], [(6, .var 123 [.d (.fn 103)]), (5, .var 34 [.d (I Top), .d (I Bottom)]), (3, .var 34 [.d (I 0), .d (I 0)]), (2, .var 94 [.d (I c.weight), .d (I c.lean)]), (1, .var 83 (catV (cv25 b_StandBook) [.d (.sl 4 (List.map e92 b_truths)), .d (I b_lead.weight), .d (I b_lead.along), .d (I b_lead.high), .map 0])), (0, .mp (List.map m94_34 m0))], 7, Fr.emp, [], 1⟩ (by kernel_rfl) ?_
      refine AW.seqK (fun K_9 hK_9 => ?_)
      refine AW.cond rfl (fun hb_10 => ?_) (fun hb_10 => False.elim (by have := of_decide_eq_false hb_10; omega))
      refine AW.skip ?_
      refine hK_9 _ ?_
      refine AW.seqK (fun K_11 hK_11 => ?_)
      refine AW.block ?_
      refine AW.srwK (fun Q_12 hQ_12 => ?_)
      refine RW.au fokW 1 [] ⟨[(2, .ptr 1 0), (3, .ptr 2 0), (4, .ptr 3 0), (7, .ptr 5 0), (8, .ptr 6 0), (24, .d (.sl 4 (List.map e92 b_truths))), (25, .d (I (b_truths.length : Int))), (26, .d (I v)), (28, .d (I v))], [(6, .var 123 [.d (.fn 103)]), (5, .var 34 [.d (I Top), .d (I Bottom)]), (3, .var 34 [.d (I 0), .d (I 0)]), (2, .var 94 [.d (I c.weight), .d (I c.lean)]), (1, .var 83 (catV (cv25 b_StandBook) [.d (.sl 4 (List.map e92 b_truths)), .d (I b_lead.weight), .d (I b_lead.along), .d (I b_lead.high), .map 0])), (0, .mp (List.map m94_34 m0))], 7, Fr.emp, [], 1⟩ (by kernel_rfl) ?_
      refine RW.one fokW (r_iaD trivial rfl rfl hi_8 (row := e92 p) (mapget hp_8) (r_end ?_))
      refine RW.au fokW 4 [] ⟨[(2, .ptr 1 0), (3, .ptr 2 0), (4, .ptr 3 0), (7, .ptr 5 0), (8, .ptr 6 0), (9, .d (I v)), (10, .ptr 7 0), (24, .d (.sl 4 (List.map e92 b_truths))), (25, .d (I (b_truths.length : Int))), (26, .d (I v))], [(7, .var 92 [.d (I (p 0)), .d (I (p 1)), .d (I (p 2)), .d (I (p 3))]), (6, .var 123 [.d (.fn 103)]), (5, .var 34 [.d (I Top), .d (I Bottom)]), (3, .var 34 [.d (I 0), .d (I 0)]), (2, .var 94 [.d (I c.weight), .d (I c.lean)]), (1, .var 83 (catV (cv25 b_StandBook) [.d (.sl 4 (List.map e92 b_truths)), .d (I b_lead.weight), .d (I b_lead.along), .d (I b_lead.high), .map 0])), (0, .mp (List.map m94_34 m0))], 8, Fr.emp, [], 1⟩ (by kernel_rfl) ?_
      refine RW.nil ?_
      refine hQ_12 _ ?_
      refine AW.srwK (fun Q_13 hQ_13 => ?_)
      refine RW.au fokW 3 [] ⟨[(2, .ptr 1 0), (3, .ptr 2 0), (4, .ptr 3 0), (7, .ptr 5 0), (8, .ptr 6 0), (9, .d (I v)), (24, .d (.sl 4 (List.map e92 b_truths))), (25, .d (I (b_truths.length : Int))), (26, .d (I v)), (31, .agg [.d (I b_StandBook.Kind), .d (I b_StandBook.Front), .d (I b_StandBook.Back), .d (I b_StandBook.Radius), .d (.sl 4 (List.map e70 b_StandBook.Parts)), .d (I b_StandBook.Along), .d (I b_StandBook.High), .d (I b_StandBook.Lean_), .d (I b_StandBook.Limit), .d (.sl 3 (List.map e65 b_StandBook.Trials)), .d (.sl 4 (List.map e92 b_truths)), .d (I b_lead.weight), .d (I b_lead.along), .d (I b_lead.high), .map 0]), (32, .agg [.d (I (p 0)), .d (I (p 1)), .d (I (p 2)), .d (I (p 3))]), (33, .agg [.d (I c.weight), .d (I c.lean)])], [(6, .var 123 [.d (.fn 103)]), (5, .var 34 [.d (I Top), .d (I Bottom)]), (3, .var 34 [.d (I 0), .d (I 0)]), (2, .var 94 [.d (I c.weight), .d (I c.lean)]), (1, .var 83 (catV (cv25 b_StandBook) [.d (.sl 4 (List.map e92 b_truths)), .d (I b_lead.weight), .d (I b_lead.along), .d (I b_lead.high), .map 0])), (0, .mp (List.map m94_34 m0))], 8, Fr.emp, [], 1⟩ (by kernel_rfl) ?_
      obtain ⟨r0, hx_14, h⟩ := bsome h
      refine RW.one fokW (r_callZ (zr := []) trivial rfl (k95 b_StandBook b_truths b_lead p c _ hx_14) trivial ⟨(Frz.agg_of ⟨.refl _, .refl _, .refl _, .refl _, .refl _, .refl _, .refl _, .refl _, .refl _, .refl _, .refl _, .refl _, .refl _, .refl _, (.opq rfl (by intro _ h; cases h)), trivial⟩), .refl _, .refl _, trivial⟩ rfl rfl rfl rfl (r_end ?_))
      refine RW.au fokW 2 [] ⟨[(2, .ptr 1 0), (3, .ptr 2 0), (4, .ptr 3 0), (7, .ptr 5 0), (8, .ptr 6 0), (9, .d (I v)), (11, .ptr 8 0), (24, .d (.sl 4 (List.map e92 b_truths))), (25, .d (I (b_truths.length : Int))), (26, .d (I v))], [(8, .var 80 [.d (I r0.weight), .d (I r0.along), .d (I r0.high)]), (6, .var 123 [.d (.fn 103)]), (5, .var 34 [.d (I Top), .d (I Bottom)]), (3, .var 34 [.d (I 0), .d (I 0)]), (2, .var 94 [.d (I c.weight), .d (I c.lean)]), (1, .var 83 (catV (cv25 b_StandBook) [.d (.sl 4 (List.map e92 b_truths)), .d (I b_lead.weight), .d (I b_lead.along), .d (I b_lead.high), .map 0])), (0, .mp (List.map m94_34 m0))], 9, Fr.emp, [], 1⟩ (by kernel_rfl) ?_
      refine RW.nil ?_
      refine hQ_13 _ ?_
      obtain ⟨Top1, hx_15, h⟩ := bsome h
      refine AW.jnSK (fun (Top1 : Int) => ⟨[(2, .ptr 1 0), (3, .ptr 2 0), (4, .ptr 3 0), (7, .ptr 5 0), (8, .ptr 6 0), (9, .d (I v)), (12, .ptr 9 0), (24, .d (.sl 4 (List.map e92 b_truths))), (25, .d (I (b_truths.length : Int))), (26, .d (I v))], [(9, .var 34 [.d (I Top1), .d (I r0.weight)]), (6, .var 123 [.d (.fn 103)]), (5, .var 34 [.d (I Top), .d (I Bottom)]), (3, .var 34 [.d (I 0), .d (I 0)]), (2, .var 94 [.d (I c.weight), .d (I c.lean)]), (1, .var 83 (catV (cv25 b_StandBook) [.d (.sl 4 (List.map e92 b_truths)), .d (I b_lead.weight), .d (I b_lead.along), .d (I b_lead.high), .map 0])), (0, .mp (List.map m94_34 m0))], 10, Fr.emp, [], 1⟩) (c := Top1) (fun K_15 hK_15 => ?_) ?_
      · have h := hx_15
        refine AW.drw fokW ?_
        refine RunC.auX 3 ⟨[(2, .ptr 1 0), (3, .ptr 2 0), (4, .ptr 3 0), (7, .ptr 5 0), (8, .ptr 6 0), (9, .d (I v)), (11, .ptr 8 0), (24, .d (.sl 4 (List.map e92 b_truths))), (25, .d (I (b_truths.length : Int))), (26, .d (I v)), (37, .d (I b_StandBook.Kind))], [(8, .var 80 [.d (I r0.weight), .d (I r0.along), .d (I r0.high)]), (6, .var 123 [.d (.fn 103)]), (5, .var 34 [.d (I Top), .d (I Bottom)]), (3, .var 34 [.d (I 0), .d (I 0)]), (2, .var 94 [.d (I c.weight), .d (I c.lean)]), (1, .var 83 (catV (cv25 b_StandBook) [.d (.sl 4 (List.map e92 b_truths)), .d (I b_lead.weight), .d (I b_lead.along), .d (I b_lead.high), .map 0])), (0, .mp (List.map m94_34 m0))], 9, Fr.emp, [], 1⟩ (by kernel_rfl) ?_
        obtain ⟨j, hv_17, h⟩ := bsome h
        rcases j with _ | _ | j
        · refine r_iaF trivial rfl rfl (ixN_ok hv_17).1 (ixN_ok hv_17).2.1 ?_
          refine r_loadF trivial rfl (u := .fn 121) (by rw [(ixN_ok hv_17).2.2]; rfl) ?_
          refine RunC.auX 2 ⟨[(2, .ptr 1 0), (3, .ptr 2 0), (4, .ptr 3 0), (7, .ptr 5 0), (8, .ptr 6 0), (9, .d (I v)), (11, .ptr 8 0), (24, .d (.sl 4 (List.map e92 b_truths))), (25, .d (I (b_truths.length : Int))), (26, .d (I v)), (39, .d (.fn 121)), (40, .agg [.d (I b_StandBook.Kind), .d (I b_StandBook.Front), .d (I b_StandBook.Back), .d (I b_StandBook.Radius), .d (.sl 4 (List.map e70 b_StandBook.Parts)), .d (I b_StandBook.Along), .d (I b_StandBook.High), .d (I b_StandBook.Lean_), .d (I b_StandBook.Limit), .d (.sl 3 (List.map e65 b_StandBook.Trials)), .d (.sl 4 (List.map e92 b_truths)), .d (I b_lead.weight), .d (I b_lead.along), .d (I b_lead.high), .map 0]), (41, .agg [.d (I r0.weight), .d (I r0.along), .d (I r0.high)])], [(8, .var 80 [.d (I r0.weight), .d (I r0.along), .d (I r0.high)]), (6, .var 123 [.d (.fn 103)]), (5, .var 34 [.d (I Top), .d (I Bottom)]), (3, .var 34 [.d (I 0), .d (I 0)]), (2, .var 94 [.d (I c.weight), .d (I c.lean)]), (1, .var 83 (catV (cv25 b_StandBook) [.d (.sl 4 (List.map e92 b_truths)), .d (I b_lead.weight), .d (I b_lead.along), .d (I b_lead.high), .map 0])), (0, .mp (List.map m94_34 m0))], 9, Fr.emp, [], 1⟩ (by kernel_rfl) ?_
          obtain ⟨r0_1, hx_18, h⟩ := bsome h
          refine r_callvZ (zr := []) trivial rfl (.fn _) (by kernel_rfl) rfl (k121 b_StandBook b_truths b_lead r0 _ hx_18) trivial ⟨(Frz.agg_of ⟨.refl _, .refl _, .refl _, .refl _, .refl _, .refl _, .refl _, .refl _, .refl _, .refl _, .refl _, .refl _, .refl _, .refl _, (.opq rfl (by intro _ h; cases h)), trivial⟩), .refl _, trivial⟩ rfl rfl rfl rfl ?_
          refine RunC.auX 5 ⟨[(2, .ptr 1 0), (3, .ptr 2 0), (4, .ptr 3 0), (7, .ptr 5 0), (8, .ptr 6 0), (9, .d (I v)), (12, .ptr 9 0), (24, .d (.sl 4 (List.map e92 b_truths))), (25, .d (I (b_truths.length : Int))), (26, .d (I v))], [(9, .var 34 [.d (I r0_1), .d (I r0.weight)]), (8, .var 80 [.d (I r0.weight), .d (I r0.along), .d (I r0.high)]), (6, .var 123 [.d (.fn 103)]), (5, .var 34 [.d (I Top), .d (I Bottom)]), (3, .var 34 [.d (I 0), .d (I 0)]), (2, .var 94 [.d (I c.weight), .d (I c.lean)]), (1, .var 83 (catV (cv25 b_StandBook) [.d (.sl 4 (List.map e92 b_truths)), .d (I b_lead.weight), .d (I b_lead.along), .d (I b_lead.high), .map 0])), (0, .mp (List.map m94_34 m0))], 10, Fr.emp, [], 1⟩ (by kernel_rfl) ?_
          refine RunC.fin ⟨[(2, .ptr 1 0), (3, .ptr 2 0), (4, .ptr 3 0), (7, .ptr 5 0), (8, .ptr 6 0), (9, .d (I v)), (12, .ptr 9 0), (24, .d (.sl 4 (List.map e92 b_truths))), (25, .d (I (b_truths.length : Int))), (26, .d (I v))], [(9, .var 34 [.d (I r0_1), .d (I r0.weight)]), (6, .var 123 [.d (.fn 103)]), (5, .var 34 [.d (I Top), .d (I Bottom)]), (3, .var 34 [.d (I 0), .d (I 0)]), (2, .var 94 [.d (I c.weight), .d (I c.lean)]), (1, .var 83 (catV (cv25 b_StandBook) [.d (.sl 4 (List.map e92 b_truths)), .d (I b_lead.weight), .d (I b_lead.along), .d (I b_lead.high), .map 0])), (0, .mp (List.map m94_34 m0))], 10, Fr.emp, [], 1⟩ (by kernel_rfl) (by kernel_rfl) ?_
          obtain rfl := Option.some.inj h
          exact hK_15 _ (Can.kp (by kernel_rfl))
        · refine r_iaF trivial rfl rfl (ixN_ok hv_17).1 (ixN_ok hv_17).2.1 ?_
          refine r_loadF trivial rfl (u := .fn 122) (by rw [(ixN_ok hv_17).2.2]; rfl) ?_
          refine RunC.auX 2 ⟨[(2, .ptr 1 0), (3, .ptr 2 0), (4, .ptr 3 0), (7, .ptr 5 0), (8, .ptr 6 0), (9, .d (I v)), (11, .ptr 8 0), (24, .d (.sl 4 (List.map e92 b_truths))), (25, .d (I (b_truths.length : Int))), (26, .d (I v)), (39, .d (.fn 122)), (40, .agg [.d (I b_StandBook.Kind), .d (I b_StandBook.Front), .d (I b_StandBook.Back), .d (I b_StandBook.Radius), .d (.sl 4 (List.map e70 b_StandBook.Parts)), .d (I b_StandBook.Along), .d (I b_StandBook.High), .d (I b_StandBook.Lean_), .d (I b_StandBook.Limit), .d (.sl 3 (List.map e65 b_StandBook.Trials)), .d (.sl 4 (List.map e92 b_truths)), .d (I b_lead.weight), .d (I b_lead.along), .d (I b_lead.high), .map 0]), (41, .agg [.d (I r0.weight), .d (I r0.along), .d (I r0.high)])], [(8, .var 80 [.d (I r0.weight), .d (I r0.along), .d (I r0.high)]), (6, .var 123 [.d (.fn 103)]), (5, .var 34 [.d (I Top), .d (I Bottom)]), (3, .var 34 [.d (I 0), .d (I 0)]), (2, .var 94 [.d (I c.weight), .d (I c.lean)]), (1, .var 83 (catV (cv25 b_StandBook) [.d (.sl 4 (List.map e92 b_truths)), .d (I b_lead.weight), .d (I b_lead.along), .d (I b_lead.high), .map 0])), (0, .mp (List.map m94_34 m0))], 9, Fr.emp, [], 1⟩ (by kernel_rfl) ?_
          obtain ⟨r0_1_1, hx_19, h⟩ := bsome h
          refine r_callvZ (zr := []) trivial rfl (.fn _) (by kernel_rfl) rfl (k122 b_StandBook b_truths b_lead r0 _ hx_19) trivial ⟨(Frz.agg_of ⟨.refl _, .refl _, .refl _, .refl _, .refl _, .refl _, .refl _, .refl _, .refl _, .refl _, .refl _, .refl _, .refl _, .refl _, (.opq rfl (by intro _ h; cases h)), trivial⟩), .refl _, trivial⟩ rfl rfl rfl rfl ?_
          refine RunC.auX 5 ⟨[(2, .ptr 1 0), (3, .ptr 2 0), (4, .ptr 3 0), (7, .ptr 5 0), (8, .ptr 6 0), (9, .d (I v)), (12, .ptr 9 0), (24, .d (.sl 4 (List.map e92 b_truths))), (25, .d (I (b_truths.length : Int))), (26, .d (I v))], [(9, .var 34 [.d (I r0_1_1), .d (I r0.weight)]), (8, .var 80 [.d (I r0.weight), .d (I r0.along), .d (I r0.high)]), (6, .var 123 [.d (.fn 103)]), (5, .var 34 [.d (I Top), .d (I Bottom)]), (3, .var 34 [.d (I 0), .d (I 0)]), (2, .var 94 [.d (I c.weight), .d (I c.lean)]), (1, .var 83 (catV (cv25 b_StandBook) [.d (.sl 4 (List.map e92 b_truths)), .d (I b_lead.weight), .d (I b_lead.along), .d (I b_lead.high), .map 0])), (0, .mp (List.map m94_34 m0))], 10, Fr.emp, [], 1⟩ (by kernel_rfl) ?_
          refine RunC.fin ⟨[(2, .ptr 1 0), (3, .ptr 2 0), (4, .ptr 3 0), (7, .ptr 5 0), (8, .ptr 6 0), (9, .d (I v)), (12, .ptr 9 0), (24, .d (.sl 4 (List.map e92 b_truths))), (25, .d (I (b_truths.length : Int))), (26, .d (I v))], [(9, .var 34 [.d (I r0_1_1), .d (I r0.weight)]), (6, .var 123 [.d (.fn 103)]), (5, .var 34 [.d (I Top), .d (I Bottom)]), (3, .var 34 [.d (I 0), .d (I 0)]), (2, .var 94 [.d (I c.weight), .d (I c.lean)]), (1, .var 83 (catV (cv25 b_StandBook) [.d (.sl 4 (List.map e92 b_truths)), .d (I b_lead.weight), .d (I b_lead.along), .d (I b_lead.high), .map 0])), (0, .mp (List.map m94_34 m0))], 10, Fr.emp, [], 1⟩ (by kernel_rfl) (by kernel_rfl) ?_
          obtain rfl := Option.some.inj h
          exact hK_15 _ (Can.kp (by kernel_rfl))
        · cases h
      · refine AW.srwK (fun Q_20 hQ_20 => ?_)
        refine RW.au fokW 3 [] ⟨[(2, .ptr 1 0), (3, .ptr 2 0), (4, .ptr 3 0), (7, .ptr 5 0), (8, .ptr 6 0), (12, .ptr 9 0), (24, .d (.sl 4 (List.map e92 b_truths))), (25, .d (I (b_truths.length : Int))), (26, .d (I v)), (48, .d (.bool (decide (v = 0))))], [(9, .var 34 [.d (I Top1), .d (I r0.weight)]), (6, .var 123 [.d (.fn 103)]), (5, .var 34 [.d (I Top), .d (I Bottom)]), (3, .var 34 [.d (I 0), .d (I 0)]), (2, .var 94 [.d (I c.weight), .d (I c.lean)]), (1, .var 83 (catV (cv25 b_StandBook) [.d (.sl 4 (List.map e92 b_truths)), .d (I b_lead.weight), .d (I b_lead.along), .d (I b_lead.high), .map 0])), (0, .mp (List.map m94_34 m0))], 10, Fr.emp, [], 1⟩ (by kernel_rfl) ?_
        obtain ⟨v1, hx_21, h⟩ := bsome h
        refine RW.cut fokW 6 (⟨[(2, .ptr 1 0), (3, .ptr 2 0), (4, .ptr 3 0), (7, .ptr 5 0), (8, .ptr 6 0), (12, .ptr 9 0), (24, .d (.sl 4 (List.map e92 b_truths))), (25, .d (I (b_truths.length : Int))), (26, .d (I v)), (54, .d (.bool v1))], [(9, .var 34 [.d (I Top1), .d (I r0.weight)]), (6, .var 123 [.d (.fn 103)]), (5, .var 34 [.d (I Top), .d (I Bottom)]), (3, .var 34 [.d (I 0), .d (I 0)]), (2, .var 94 [.d (I c.weight), .d (I c.lean)]), (1, .var 83 (catV (cv25 b_StandBook) [.d (.sl 4 (List.map e92 b_truths)), .d (I b_lead.weight), .d (I b_lead.along), .d (I b_lead.high), .map 0])), (0, .mp (List.map m94_34 m0))], 10, Fr.emp, [], 1⟩) ?_ ?_
        · refine r_split 48 rfl (fun hb_23 => ?_) (fun hb_23 => ?_)
          · have h := ifT hb_23 hx_21
            refine RunC.auX 6 ⟨[(2, .ptr 1 0), (3, .ptr 2 0), (4, .ptr 3 0), (7, .ptr 5 0), (8, .ptr 6 0), (12, .ptr 9 0), (24, .d (.sl 4 (List.map e92 b_truths))), (25, .d (I (b_truths.length : Int))), (26, .d (I v)), (49, .undef), (50, .undef), (51, .undef), (52, .undef), (53, .undef), (54, .d (.bool true))], [(9, .var 34 [.d (I Top1), .d (I r0.weight)]), (6, .var 123 [.d (.fn 103)]), (5, .var 34 [.d (I Top), .d (I Bottom)]), (3, .var 34 [.d (I 0), .d (I 0)]), (2, .var 94 [.d (I c.weight), .d (I c.lean)]), (1, .var 83 (catV (cv25 b_StandBook) [.d (.sl 4 (List.map e92 b_truths)), .d (I b_lead.weight), .d (I b_lead.along), .d (I b_lead.high), .map 0])), (0, .mp (List.map m94_34 m0))], 10, Fr.emp, [], 1⟩ (by kernel_rfl) ?_
            obtain rfl := Option.some.inj h
            refine RunC.finJ (Can.kp (by kernel_rfl))
          · have h := ifF hb_23 hx_21
            refine RunC.auX 4 ⟨[(2, .ptr 1 0), (3, .ptr 2 0), (4, .ptr 3 0), (7, .ptr 5 0), (8, .ptr 6 0), (12, .ptr 9 0), (24, .d (.sl 4 (List.map e92 b_truths))), (25, .d (I (b_truths.length : Int))), (26, .d (I v)), (48, .d (.bool false)), (49, .ptr 6 0), (50, .d (.fn 103)), (51, .agg [.d (I Top1), .d (I r0.weight)]), (52, .agg [.d (I Top), .d (I Bottom)])], [(9, .var 34 [.d (I Top1), .d (I r0.weight)]), (6, .var 123 [.d (.fn 103)]), (5, .var 34 [.d (I Top), .d (I Bottom)]), (3, .var 34 [.d (I 0), .d (I 0)]), (2, .var 94 [.d (I c.weight), .d (I c.lean)]), (1, .var 83 (catV (cv25 b_StandBook) [.d (.sl 4 (List.map e92 b_truths)), .d (I b_lead.weight), .d (I b_lead.along), .d (I b_lead.high), .map 0])), (0, .mp (List.map m94_34 m0))], 10, Fr.emp, [], 1⟩ (by kernel_rfl) ?_
            obtain ⟨r0_2, hx_22, h⟩ := bsome h
            refine r_callvZ (zr := []) rfl rfl (.fn _) (by kernel_rfl) rfl (k103 (StandRatio.mk Top1 r0.weight) (StandRatio.mk Top Bottom) _ hx_22) trivial ⟨.refl _, .refl _, trivial⟩ rfl rfl rfl rfl ?_
            refine RunC.auX 1 ⟨[(2, .ptr 1 0), (3, .ptr 2 0), (4, .ptr 3 0), (7, .ptr 5 0), (8, .ptr 6 0), (12, .ptr 9 0), (24, .d (.sl 4 (List.map e92 b_truths))), (25, .d (I (b_truths.length : Int))), (26, .d (I v)), (49, .ptr 6 0), (50, .d (.fn 103)), (51, .agg [.d (I Top1), .d (I r0.weight)]), (52, .agg [.d (I Top), .d (I Bottom)]), (53, .d (.bool r0_2)), (54, .d (.bool r0_2))], [(9, .var 34 [.d (I Top1), .d (I r0.weight)]), (6, .var 123 [.d (.fn 103)]), (5, .var 34 [.d (I Top), .d (I Bottom)]), (3, .var 34 [.d (I 0), .d (I 0)]), (2, .var 94 [.d (I c.weight), .d (I c.lean)]), (1, .var 83 (catV (cv25 b_StandBook) [.d (.sl 4 (List.map e92 b_truths)), .d (I b_lead.weight), .d (I b_lead.along), .d (I b_lead.high), .map 0])), (0, .mp (List.map m94_34 m0))], 10, Fr.emp, [], 1⟩ (by kernel_rfl) ?_
            obtain rfl := Option.some.inj h
            refine RunC.finJ (Can.kp (by kernel_rfl))
        · refine RW.nil ?_
          refine hQ_20 _ ?_
          refine AW.cond rfl (fun hb_24 => ?_) (fun hb_24 => ?_)
          · have h := ifT hb_24 h
            refine AW.ra fokW [] ⟨[(2, .ptr 1 0), (3, .ptr 2 0), (4, .ptr 3 0), (7, .ptr 5 0), (8, .ptr 6 0), (24, .d (.sl 4 (List.map e92 b_truths))), (25, .d (I (b_truths.length : Int))), (26, .d (I v))], [(5, .var 34 [.d (I Top1), .d (I r0.weight)]), (6, .var 123 [.d (.fn 103)]), (3, .var 34 [.d (I 0), .d (I 0)]), (2, .var 94 [.d (I c.weight), .d (I c.lean)]), (1, .var 83 (catV (cv25 b_StandBook) [.d (.sl 4 (List.map e92 b_truths)), .d (I b_lead.weight), .d (I b_lead.along), .d (I b_lead.high), .map 0])), (0, .mp (List.map m94_34 m0))], 10, Fr.emp, [], 1⟩ (by kernel_rfl) ?_
            refine hK_11 _ ?_
            refine AW.ra fokW [] ⟨[(2, .ptr 1 0), (3, .ptr 2 0), (4, .ptr 3 0), (7, .ptr 5 0), (8, .ptr 6 0), (24, .d (.sl 4 (List.map e92 b_truths))), (25, .d (I (b_truths.length : Int))), (26, .d (I (wr (v + 1))))], [(5, .var 34 [.d (I Top1), .d (I r0.weight)]), (6, .var 123 [.d (.fn 103)]), (3, .var 34 [.d (I 0), .d (I 0)]), (2, .var 94 [.d (I c.weight), .d (I c.lean)]), (1, .var 83 (catV (cv25 b_StandBook) [.d (.sl 4 (List.map e92 b_truths)), .d (I b_lead.weight), .d (I b_lead.along), .d (I b_lead.high), .map 0])), (0, .mp (List.map m94_34 m0))], 10, Fr.emp, [], 1⟩ (by kernel_rfl) ?_
            obtain rfl := Option.some.inj h
            have ew : wr (v + 1) = v + 1 := inext (N := (b_truths.length : Int)) (by omega) (by omega) (by omega)
            rw [ew]
            exact hK_8 _ (Can.kp (by kernel_rfl))
          · have h := ifF hb_24 h
            refine AW.skip ?_
            refine hK_11 _ ?_
            refine AW.ra fokW [] ⟨[(2, .ptr 1 0), (3, .ptr 2 0), (4, .ptr 3 0), (7, .ptr 5 0), (8, .ptr 6 0), (24, .d (.sl 4 (List.map e92 b_truths))), (25, .d (I (b_truths.length : Int))), (26, .d (I (wr (v + 1))))], [(6, .var 123 [.d (.fn 103)]), (5, .var 34 [.d (I Top), .d (I Bottom)]), (3, .var 34 [.d (I 0), .d (I 0)]), (2, .var 94 [.d (I c.weight), .d (I c.lean)]), (1, .var 83 (catV (cv25 b_StandBook) [.d (.sl 4 (List.map e92 b_truths)), .d (I b_lead.weight), .d (I b_lead.along), .d (I b_lead.high), .map 0])), (0, .mp (List.map m94_34 m0))], 10, Fr.emp, [], 1⟩ (by kernel_rfl) ?_
            obtain rfl := Option.some.inj h
            have ew : wr (v + 1) = v + 1 := inext (N := (b_truths.length : Int)) (by omega) (by omega) (by omega)
            rw [ew]
            exact hK_8 _ (Can.kp (by kernel_rfl))
    · obtain ⟨Top, Bottom⟩ := s_8
      subst hout
      refine AW.sa fokW [] ⟨[(2, .ptr 1 0), (3, .ptr 2 0), (4, .ptr 3 0), (7, .ptr 5 0), (8, .ptr 6 0), (24, .d (.sl 4 (List.map e92 b_truths))), (25, .d (I (b_truths.length : Int))), (26, .d (I v)), (27, .d (.bool (decide (v < (b_truths.length : Int)))))], [(6, .var 123 [.d (.fn 103)]), (5, .var 34 [.d (I Top), .d (I Bottom)]), (3, .var 34 [.d (I 0), .d (I 0)]), (2, .var 94 [.d (I c.weight), .d (I c.lean)]), (1, .var 83 (catV (cv25 b_StandBook) [.d (.sl 4 (List.map e92 b_truths)), .d (I b_lead.weight), .d (I b_lead.along), .d (I b_lead.high), .map 0])), (0, .mp (List.map m94_34 m0))], 7, Fr.emp, [], 1⟩ (by kernel_rfl) ?_
      refine AW.seqK (fun K_25 hK_25 => ?_)
      refine AW.cond rfl (fun hb_26 => False.elim (by have := of_decide_eq_true hb_26; omega)) (fun hb_26 => ?_)
      refine AW.exit ?_
      refine hK_6 _ ?_
      refine AW.sdrwK fokW (fun Q_27 hQ_27 => ?_)
      refine RunC.auX 4 ⟨[(2, .ptr 1 0), (3, .ptr 2 0), (4, .ptr 3 0), (58, .map 0), (59, .agg [.d (I c.weight), .d (I c.lean)]), (60, .agg [.d (I Top), .d (I Bottom)])], [(6, .var 123 [.d (.fn 103)]), (5, .var 34 [.d (I Top), .d (I Bottom)]), (3, .var 34 [.d (I 0), .d (I 0)]), (2, .var 94 [.d (I c.weight), .d (I c.lean)]), (1, .var 83 (catV (cv25 b_StandBook) [.d (.sl 4 (List.map e92 b_truths)), .d (I b_lead.weight), .d (I b_lead.along), .d (I b_lead.high), .map 0])), (0, .mp (List.map m94_34 m0))], 7, Fr.emp, [], 1⟩ (by kernel_rfl) ?_
      obtain ⟨r0_3, hx_28, h⟩ := bsome h
      refine r_call trivial rfl (k97 (StandRatio.mk Top Bottom) _ hx_28) rfl rfl ?_
      obtain ⟨m, hv_29, h⟩ := bsome h
      refine r_mput q94 e94 (fun x => DV.a (e34 x)) trivial rfl rfl rfl rfl ft94 q94_ok (fun _ => rfl) rfl hv_29 ?_
      refine RunC.fin ⟨[(2, .ptr 1 0), (3, .ptr 2 0), (4, .ptr 3 0)], [(0, .mp (List.map m94_34 m)), (3, .var 34 [.d (I 0), .d (I 0)]), (2, .var 94 [.d (I c.weight), .d (I c.lean)]), (1, .var 83 (catV (cv25 b_StandBook) [.d (.sl 4 (List.map e92 b_truths)), .d (I b_lead.weight), .d (I b_lead.along), .d (I b_lead.high), .map 0]))], 7, Fr.emp, [], 1⟩ (by kernel_rfl) (by kernel_rfl) ?_
      refine hQ_27 _ ?_
      refine AW.srwK (fun Q_30 hQ_30 => ?_)
      refine RW.au fokW 3 [] ⟨[(4, .ptr 3 0), (63, .map 0), (64, .agg [.d (I c.weight), .d (I c.lean)])], [(0, .mp (List.map m94_34 m)), (3, .var 34 [.d (I 0), .d (I 0)])], 7, Fr.emp, [], 1⟩ (by kernel_rfl) ?_
      refine RW.one fokW (r_lookA q94 e94 e34 m c (StandRatio.mk 0 0) trivial rfl rfl rfl ft94 q94_ok (fun _ => rfl) rfl (r_end ?_))
      refine RW.au fokW 1 [] ⟨[(4, .ptr 3 0)], [(3, .var 34 [.d (I (((mget q94 m c).getD (StandRatio.mk 0 0)).Top)), .d (I (((mget q94 m c).getD (StandRatio.mk 0 0)).Bottom))]), (0, .mp (List.map m94_34 m))], 7, Fr.emp, [], 1⟩ (by kernel_rfl) ?_
      refine RW.nil ?_
      refine hQ_30 _ ?_
      obtain rfl := Option.some.inj h
      exact AW.ret (hR_0 _ (retX (.cons (.agg rfl rfl (Nat.le_of_ble_eq_true rfl)) .nil) (.refl _) rfl (by kernel_rfl) (by kernel_rfl)))
def g22 (x : StandBook) (weight : Int) (lean : Int) : Option (StandRatio × Int) := ((g68 x weight).bind fun r0_1 => bif r0_1 then ((g69 x lean).bind fun r0_1_1 => (g67 x r0_1_1).bind fun r_8 => match r_8 with | .next (r0_StandBook5, r0_truths5, r0_lead5, r1_2) => (must (decide (r1_2 ≠ 0))).bind fun _ => some (.next (r1_2, r0_StandBook5.Kind, r0_StandBook5.Front, r0_StandBook5.Back, r0_StandBook5.Radius, r0_StandBook5.Parts, r0_StandBook5.Along, r0_StandBook5.High, r0_StandBook5.Lean_, r0_StandBook5.Limit, r0_StandBook5.Trials, r0_truths5, r0_lead5.weight, r0_lead5.along, r0_lead5.high)) | .brk (r0_StandBook6, r0_truths6, r0_lead6, r1_3, m4_1) => some (.brk (r1_3, r0_StandBook6.Kind, r0_StandBook6.Front, r0_StandBook6.Back, r0_StandBook6.Radius, r0_StandBook6.Parts, r0_StandBook6.Along, r0_StandBook6.High, r0_StandBook6.Lean_, r0_StandBook6.Limit, r0_StandBook6.Trials, r0_truths6, r0_lead6.weight, r0_lead6.along, r0_lead6.high, m4_1))) else ((g67 x false).bind fun r_11 => match r_11 with | .next (r0_StandBook5_1, r0_truths5_1, r0_lead5_1, r1_2_1) => (must (decide (r1_2_1 ≠ 0))).bind fun _ => some (.next (r1_2_1, r0_StandBook5_1.Kind, r0_StandBook5_1.Front, r0_StandBook5_1.Back, r0_StandBook5_1.Radius, r0_StandBook5_1.Parts, r0_StandBook5_1.Along, r0_StandBook5_1.High, r0_StandBook5_1.Lean_, r0_StandBook5_1.Limit, r0_StandBook5_1.Trials, r0_truths5_1, r0_lead5_1.weight, r0_lead5_1.along, r0_lead5_1.high)) | .brk (r0_StandBook6_1, r0_truths6_1, r0_lead6_1, r1_3_1, m4_1_1) => some (.brk (r1_3_1, r0_StandBook6_1.Kind, r0_StandBook6_1.Front, r0_StandBook6_1.Back, r0_StandBook6_1.Radius, r0_StandBook6_1.Parts, r0_StandBook6_1.Along, r0_StandBook6_1.High, r0_StandBook6_1.Lean_, r0_StandBook6_1.Limit, r0_StandBook6_1.Trials, r0_truths6_1, r0_lead6_1.weight, r0_lead6_1.along, r0_lead6_1.high, m4_1_1))) : Option (Ctl (Int × Int × Int × Int × Int × (List StandPart) × Int × Int × Int × Int × (List StandTrial) × (List (Nat → Int)) × Int × Int × Int) (Int × Int × Int × Int × Int × (List StandPart) × Int × Int × Int × Int × (List StandTrial) × (List (Nat → Int)) × Int × Int × Int × (List (Stand_child × StandRatio))))).bind fun j_1 => match j_1 with | .next (e, Kind, Front, Back, Radius, Parts, Along, High, Lean_, Limit, Trials, truths, weight1, along, high) => (must (decide (e ≠ 0))).bind fun _ => some ((StandRatio.mk 0 0), e) | .brk (e1, Kind1, Front1, Back1, Radius1, Parts1, Along1, High1, Lean_1, Limit1, Trials1, truths1, weight2, along1, high1, m) => bif (decide (e1 ≠ 0)) then (some ((StandRatio.mk 0 0), e1)) else ((g73a (StandBook.mk Kind1 Front1 Back1 Radius1 Parts1 Along1 High1 Lean_1 Limit1 Trials1) truths1 (Stand_load.mk weight2 along1 high1) (Stand_child.mk weight lean) m).bind fun (r0_5, m0_2) => some (r0_5, 0))
theorem k22 (x : StandBook) (weight : Int) (lean : Int) (r : StandRatio × Int) (h : g22 x weight lean = some r) : SCall Tryd.prog Gs 22 [.agg [.d (I x.Kind), .d (I x.Front), .d (I x.Back), .d (I x.Radius), .d (.sl 4 (List.map e70 x.Parts)), .d (I x.Along), .d (I x.High), .d (I x.Lean_), .d (I x.Limit), .d (.sl 3 (List.map e65 x.Trials))], .d (I weight), .d (I lean)] [] 0 Fr.emp (match r with | (r0_3, r1_4) => .tup [.agg [.d (I r0_3.Top), .d (I r0_3.Bottom)], .d (I r1_4)]) [] 0 Fr.emp := by
  unfold g22 at h
  refine SCall.mkK Tryd.func22 c22 rfl rfl (by kernel_rfl) (fun Q_0 hR_0 hN_0 => ?_)
  refine AW.sa fokW [] ⟨[(1, .d (I weight)), (2, .d (I lean)), (3, .ptr 0 0), (6, .ptr 1 0)], [(1, .var 34 [.d (I 0), .d (I 0)]), (0, .var 25 (cv25 x))], 2, Fr.emp, [], 0⟩ (by kernel_rfl) ?_
  obtain ⟨c_1, hx_1, h⟩ := bsome h
  refine AW.jnSK (fun (j : Ctl (Int × Int × Int × Int × Int × (List StandPart) × Int × Int × Int × Int × (List StandTrial) × (List (Nat → Int)) × Int × Int × Int) (Int × Int × Int × Int × Int × (List StandPart) × Int × Int × Int × Int × (List StandTrial) × (List (Nat → Int)) × Int × Int × Int × (List (Stand_child × StandRatio)))) => match j with | .next (e, Kind, Front, Back, Radius, Parts, Along, High, Lean_, Limit, Trials, truths, weight1, along, high) => ⟨[(1, .d (I weight)), (2, .d (I lean)), (6, .ptr 1 0), (8, .ptr 2 0), (9, .d (I e))], [(2, .var 83 [.d (I Kind), .d (I Front), .d (I Back), .d (I Radius), .d (.sl 4 (List.map e70 Parts)), .d (I Along), .d (I High), .d (I Lean_), .d (I Limit), .d (.sl 3 (List.map e65 Trials)), .d (.sl 4 (List.map e92 truths)), .d (I weight1), .d (I along), .d (I high), .d (.nilMap)]), (1, .var 34 [.d (I 0), .d (I 0)])], 3, Fr.emp, [], 0⟩ | .brk (e1, Kind1, Front1, Back1, Radius1, Parts1, Along1, High1, Lean_1, Limit1, Trials1, truths1, weight2, along1, high1, m) => ⟨[(1, .d (I weight)), (2, .d (I lean)), (6, .ptr 1 0), (8, .ptr 7 0), (9, .d (I e1))], [(7, .var 83 [.d (I Kind1), .d (I Front1), .d (I Back1), .d (I Radius1), .d (.sl 4 (List.map e70 Parts1)), .d (I Along1), .d (I High1), .d (I Lean_1), .d (I Limit1), .d (.sl 3 (List.map e65 Trials1)), .d (.sl 4 (List.map e92 truths1)), .d (I weight2), .d (I along1), .d (I high1), .map 6]), (6, .mp (List.map m94_34 m)), (1, .var 34 [.d (I 0), .d (I 0)])], 8, Fr.emp, [], 0⟩) (c := c_1) (fun K_1 hK_1 => ?_) ?_
  · have h := hx_1
    refine AW.drw fokW ?_
    refine RunC.auX 3 ⟨[(1, .d (I weight)), (2, .d (I lean)), (3, .ptr 0 0), (6, .ptr 1 0), (11, .agg [.d (I x.Kind), .d (I x.Front), .d (I x.Back), .d (I x.Radius), .d (.sl 4 (List.map e70 x.Parts)), .d (I x.Along), .d (I x.High), .d (I x.Lean_), .d (I x.Limit), .d (.sl 3 (List.map e65 x.Trials))]), (12, .agg [.d (I x.Kind), .d (I x.Front), .d (I x.Back), .d (I x.Radius), .d (.sl 4 (List.map e70 x.Parts)), .d (I x.Along), .d (I x.High), .d (I x.Lean_), .d (I x.Limit), .d (.sl 3 (List.map e65 x.Trials))]), (13, .d (I weight))], [(1, .var 34 [.d (I 0), .d (I 0)]), (0, .var 25 (cv25 x))], 2, Fr.emp, [], 0⟩ (by kernel_rfl) ?_
    obtain ⟨r0_1, hx_3, h⟩ := bsome h
    refine r_call trivial rfl (k68 x weight _ hx_3) rfl rfl ?_
    refine RunC.auX 1 ⟨[(1, .d (I weight)), (2, .d (I lean)), (3, .ptr 0 0), (6, .ptr 1 0), (11, .agg [.d (I x.Kind), .d (I x.Front), .d (I x.Back), .d (I x.Radius), .d (.sl 4 (List.map e70 x.Parts)), .d (I x.Along), .d (I x.High), .d (I x.Lean_), .d (I x.Limit), .d (.sl 3 (List.map e65 x.Trials))]), (15, .d (.bool r0_1))], [(1, .var 34 [.d (I 0), .d (I 0)]), (0, .var 25 (cv25 x))], 2, Fr.emp, [], 0⟩ (by kernel_rfl) ?_
    refine r_split 15 rfl (fun hb_4 => ?_) (fun hb_4 => ?_)
    · have h := ifT hb_4 h
      refine RunC.auX 2 ⟨[(1, .d (I weight)), (2, .d (I lean)), (6, .ptr 1 0), (11, .agg [.d (I x.Kind), .d (I x.Front), .d (I x.Back), .d (I x.Radius), .d (.sl 4 (List.map e70 x.Parts)), .d (I x.Along), .d (I x.High), .d (I x.Lean_), .d (I x.Limit), .d (.sl 3 (List.map e65 x.Trials))]), (15, .d (.bool true)), (16, .agg [.d (I x.Kind), .d (I x.Front), .d (I x.Back), .d (I x.Radius), .d (.sl 4 (List.map e70 x.Parts)), .d (I x.Along), .d (I x.High), .d (I x.Lean_), .d (I x.Limit), .d (.sl 3 (List.map e65 x.Trials))]), (17, .d (I lean))], [(1, .var 34 [.d (I 0), .d (I 0)]), (0, .var 25 (cv25 x))], 2, Fr.emp, [], 0⟩ (by kernel_rfl) ?_
      obtain ⟨r0_1_1, hx_5, h⟩ := bsome h
      refine r_call rfl rfl (k69 x lean _ hx_5) rfl rfl ?_
      refine RunC.auX 1 ⟨[(1, .d (I weight)), (2, .d (I lean)), (6, .ptr 1 0), (11, .agg [.d (I x.Kind), .d (I x.Front), .d (I x.Back), .d (I x.Radius), .d (.sl 4 (List.map e70 x.Parts)), .d (I x.Along), .d (I x.High), .d (I x.Lean_), .d (I x.Limit), .d (.sl 3 (List.map e65 x.Trials))]), (19, .d (.bool r0_1_1))], [(1, .var 34 [.d (I 0), .d (I 0)]), (0, .var 25 (cv25 x))], 2, Fr.emp, [], 0⟩ (by kernel_rfl) ?_
      obtain ⟨r_8, hx_6, h⟩ := bsome h
      rcases r_8 with (⟨r0_StandBook5, r0_truths5, r0_lead5, r1_2⟩ | (⟨r0_StandBook6, r0_truths6, r0_lead6, r1_3, m4_1⟩))
      · refine r_callS (zr := []) [] trivial rfl (k67 x r0_1_1 _ hx_6) trivial rfl rfl ⟨.refl _, .refl _, trivial⟩ rfl rfl rfl ?_
        obtain ⟨_, hv_7, h⟩ := bsome h
        have hf_8 := must_ok hv_7
        refine RunC.auX 6 ⟨[(1, .d (I weight)), (2, .d (I lean)), (6, .ptr 1 0), (8, .ptr 2 0), (9, .d (I r1_2))], [(2, .var 83 (catV (cv25 r0_StandBook5) [.d (.sl 4 (List.map e92 r0_truths5)), .d (I r0_lead5.weight), .d (I r0_lead5.along), .d (I r0_lead5.high), .d (.nilMap)])), (1, .var 34 [.d (I 0), .d (I 0)]), (0, .var 25 (cv25 x))], 3, Fr.emp, [], 0⟩ (by kernel_rfl) ?_
        refine RunC.fin ⟨[(1, .d (I weight)), (2, .d (I lean)), (6, .ptr 1 0), (8, .ptr 2 0), (9, .d (I r1_2))], [(2, .var 83 (catV (cv25 r0_StandBook5) [.d (.sl 4 (List.map e92 r0_truths5)), .d (I r0_lead5.weight), .d (I r0_lead5.along), .d (I r0_lead5.high), .d (.nilMap)])), (1, .var 34 [.d (I 0), .d (I 0)])], 3, Fr.emp, [], 0⟩ (by kernel_rfl) (by kernel_rfl) ?_
        obtain rfl := Option.some.inj h
        exact hK_1 _ (Can.kp (by kernel_rfl))
      · refine r_callS (zr := []) [] trivial rfl (k67 x r0_1_1 _ hx_6) trivial rfl rfl ⟨.refl _, .refl _, trivial⟩ rfl rfl rfl ?_
        refine RunC.auX 6 ⟨[(1, .d (I weight)), (2, .d (I lean)), (6, .ptr 1 0), (8, .ptr 7 0), (9, .d (I r1_3))], [(7, .var 83 (catV (cv25 r0_StandBook6) [.d (.sl 4 (List.map e92 r0_truths6)), .d (I r0_lead6.weight), .d (I r0_lead6.along), .d (I r0_lead6.high), .map 6])), (6, .mp (List.map m94_34 m4_1)), (1, .var 34 [.d (I 0), .d (I 0)]), (0, .var 25 (cv25 x))], 8, Fr.emp, [], 0⟩ (by kernel_rfl) ?_
        refine RunC.fin ⟨[(1, .d (I weight)), (2, .d (I lean)), (6, .ptr 1 0), (8, .ptr 7 0), (9, .d (I r1_3))], [(7, .var 83 (catV (cv25 r0_StandBook6) [.d (.sl 4 (List.map e92 r0_truths6)), .d (I r0_lead6.weight), .d (I r0_lead6.along), .d (I r0_lead6.high), .map 6])), (6, .mp (List.map m94_34 m4_1)), (1, .var 34 [.d (I 0), .d (I 0)])], 8, Fr.emp, [], 0⟩ (by kernel_rfl) (by kernel_rfl) ?_
        obtain rfl := Option.some.inj h
        exact hK_1 _ (Can.kp (by kernel_rfl))
    · have h := ifF hb_4 h
      refine RunC.auX 4 ⟨[(1, .d (I weight)), (2, .d (I lean)), (6, .ptr 1 0), (11, .agg [.d (I x.Kind), .d (I x.Front), .d (I x.Back), .d (I x.Radius), .d (.sl 4 (List.map e70 x.Parts)), .d (I x.Along), .d (I x.High), .d (I x.Lean_), .d (I x.Limit), .d (.sl 3 (List.map e65 x.Trials))]), (19, .d (.bool false))], [(1, .var 34 [.d (I 0), .d (I 0)]), (0, .var 25 (cv25 x))], 2, Fr.emp, [], 0⟩ (by kernel_rfl) ?_
      obtain ⟨r_11, hx_9, h⟩ := bsome h
      rcases r_11 with (⟨r0_StandBook5_1, r0_truths5_1, r0_lead5_1, r1_2_1⟩ | (⟨r0_StandBook6_1, r0_truths6_1, r0_lead6_1, r1_3_1, m4_1_1⟩))
      · refine r_callS (zr := []) [] trivial rfl (k67 x false _ hx_9) trivial rfl rfl ⟨.refl _, .refl _, trivial⟩ rfl rfl rfl ?_
        obtain ⟨_, hv_10, h⟩ := bsome h
        have hf_11 := must_ok hv_10
        refine RunC.auX 6 ⟨[(1, .d (I weight)), (2, .d (I lean)), (6, .ptr 1 0), (8, .ptr 2 0), (9, .d (I r1_2_1))], [(2, .var 83 (catV (cv25 r0_StandBook5_1) [.d (.sl 4 (List.map e92 r0_truths5_1)), .d (I r0_lead5_1.weight), .d (I r0_lead5_1.along), .d (I r0_lead5_1.high), .d (.nilMap)])), (1, .var 34 [.d (I 0), .d (I 0)]), (0, .var 25 (cv25 x))], 3, Fr.emp, [], 0⟩ (by kernel_rfl) ?_
        refine RunC.fin ⟨[(1, .d (I weight)), (2, .d (I lean)), (6, .ptr 1 0), (8, .ptr 2 0), (9, .d (I r1_2_1))], [(2, .var 83 (catV (cv25 r0_StandBook5_1) [.d (.sl 4 (List.map e92 r0_truths5_1)), .d (I r0_lead5_1.weight), .d (I r0_lead5_1.along), .d (I r0_lead5_1.high), .d (.nilMap)])), (1, .var 34 [.d (I 0), .d (I 0)])], 3, Fr.emp, [], 0⟩ (by kernel_rfl) (by kernel_rfl) ?_
        obtain rfl := Option.some.inj h
        exact hK_1 _ (Can.kp (by kernel_rfl))
      · refine r_callS (zr := []) [] trivial rfl (k67 x false _ hx_9) trivial rfl rfl ⟨.refl _, .refl _, trivial⟩ rfl rfl rfl ?_
        refine RunC.auX 6 ⟨[(1, .d (I weight)), (2, .d (I lean)), (6, .ptr 1 0), (8, .ptr 7 0), (9, .d (I r1_3_1))], [(7, .var 83 (catV (cv25 r0_StandBook6_1) [.d (.sl 4 (List.map e92 r0_truths6_1)), .d (I r0_lead6_1.weight), .d (I r0_lead6_1.along), .d (I r0_lead6_1.high), .map 6])), (6, .mp (List.map m94_34 m4_1_1)), (1, .var 34 [.d (I 0), .d (I 0)]), (0, .var 25 (cv25 x))], 8, Fr.emp, [], 0⟩ (by kernel_rfl) ?_
        refine RunC.fin ⟨[(1, .d (I weight)), (2, .d (I lean)), (6, .ptr 1 0), (8, .ptr 7 0), (9, .d (I r1_3_1))], [(7, .var 83 (catV (cv25 r0_StandBook6_1) [.d (.sl 4 (List.map e92 r0_truths6_1)), .d (I r0_lead6_1.weight), .d (I r0_lead6_1.along), .d (I r0_lead6_1.high), .map 6])), (6, .mp (List.map m94_34 m4_1_1)), (1, .var 34 [.d (I 0), .d (I 0)])], 8, Fr.emp, [], 0⟩ (by kernel_rfl) (by kernel_rfl) ?_
        obtain rfl := Option.some.inj h
        exact hK_1 _ (Can.kp (by kernel_rfl))
  · rcases c_1 with (⟨e, Kind, Front, Back, Radius, Parts, Along, High, Lean_, Limit, Trials, truths, weight1, along, high⟩ | ⟨e1, Kind1, Front1, Back1, Radius1, Parts1, Along1, High1, Lean_1, Limit1, Trials1, truths1, weight2, along1, high1, m⟩)
    · obtain ⟨_, hv_12, h⟩ := bsome h
      have hf_13 := must_ok hv_12
      refine AW.seqK (fun K_14 hK_14 => ?_)
      refine AW.sa fokW [] ⟨[(1, .d (I weight)), (2, .d (I lean)), (6, .ptr 1 0), (8, .ptr 2 0), (9, .d (I e)), (24, .d (.bool (decide (e ≠ 0))))], [(2, .var 83 [.d (I Kind), .d (I Front), .d (I Back), .d (I Radius), .d (.sl 4 (List.map e70 Parts)), .d (I Along), .d (I High), .d (I Lean_), .d (I Limit), .d (.sl 3 (List.map e65 Trials)), .d (.sl 4 (List.map e92 truths)), .d (I weight1), .d (I along), .d (I high), .d (.nilMap)]), (1, .var 34 [.d (I 0), .d (I 0)])], 3, Fr.emp, [], 0⟩ (by kernel_rfl) ?_
      refine AW.cond rfl (fun hb_15 => ?_) (fun hb_15 => False.elim (by rw [hf_13] at hb_15; cases hb_15))
      refine AW.sa fokW [] ⟨[(6, .ptr 1 0), (7, .d (I e))], [(1, .var 34 [.d (I 0), .d (I 0)])], 3, Fr.emp, [], 0⟩ (by kernel_rfl) ?_
      obtain rfl := Option.some.inj h
      exact AW.ret (hR_0 _ (retX (.cons (.agg rfl rfl (Nat.le_of_ble_eq_true rfl)) (.cons (.tmp rfl) .nil)) (.refl _) rfl (by kernel_rfl) (by kernel_rfl)))
    · refine AW.seqK (fun K_16 hK_16 => ?_)
      refine AW.sa fokW [] ⟨[(1, .d (I weight)), (2, .d (I lean)), (6, .ptr 1 0), (8, .ptr 7 0), (9, .d (I e1)), (24, .d (.bool (decide (e1 ≠ 0))))], [(7, .var 83 [.d (I Kind1), .d (I Front1), .d (I Back1), .d (I Radius1), .d (.sl 4 (List.map e70 Parts1)), .d (I Along1), .d (I High1), .d (I Lean_1), .d (I Limit1), .d (.sl 3 (List.map e65 Trials1)), .d (.sl 4 (List.map e92 truths1)), .d (I weight2), .d (I along1), .d (I high1), .map 6]), (6, .mp (List.map m94_34 m)), (1, .var 34 [.d (I 0), .d (I 0)])], 8, Fr.emp, [], 0⟩ (by kernel_rfl) ?_
      refine AW.cond rfl (fun hb_17 => ?_) (fun hb_17 => ?_)
      · have h := ifT hb_17 h
        refine AW.sa fokW [] ⟨[(6, .ptr 1 0), (7, .d (I e1))], [(1, .var 34 [.d (I 0), .d (I 0)])], 8, Fr.emp, [], 0⟩ (by kernel_rfl) ?_
        obtain rfl := Option.some.inj h
        exact AW.ret (hR_0 _ (retX (.cons (.agg rfl rfl (Nat.le_of_ble_eq_true rfl)) (.cons (.tmp rfl) .nil)) (.refl _) rfl (by kernel_rfl) (by kernel_rfl)))
      · have h := ifF hb_17 h
        refine AW.skip ?_
        refine hK_16 _ ?_
        refine AW.srwK (fun Q_18 hQ_18 => ?_)
        refine RW.au fokW 4 [] ⟨[(6, .ptr 1 0), (27, .agg [.d (I Kind1), .d (I Front1), .d (I Back1), .d (I Radius1), .d (.sl 4 (List.map e70 Parts1)), .d (I Along1), .d (I High1), .d (I Lean_1), .d (I Limit1), .d (.sl 3 (List.map e65 Trials1)), .d (.sl 4 (List.map e92 truths1)), .d (I weight2), .d (I along1), .d (I high1), .map 6]), (30, .agg [.d (I weight), .d (I lean)])], [(6, .mp (List.map m94_34 m)), (1, .var 34 [.d (I 0), .d (I 0)])], 8, Fr.emp, [], 0⟩ (by kernel_rfl) ?_
        obtain ⟨⟨r0_5, m0_2⟩, hx_19, h⟩ := bsome h
        refine RW.one fokW (r_callS (zr := []) [6] trivial rfl (k73a (StandBook.mk Kind1 Front1 Back1 Radius1 Parts1 Along1 High1 Lean_1 Limit1 Trials1) truths1 (Stand_load.mk weight2 along1 high1) (Stand_child.mk weight lean) m _ hx_19) ⟨rfl, trivial⟩ rfl rfl ⟨.refl _, .refl _, trivial⟩ rfl rfl rfl (r_end ?_))
        refine RW.au fokW 2 [] ⟨[(6, .ptr 1 0), (7, .d (I 0))], [(1, .var 34 [.d (I r0_5.Top), .d (I r0_5.Bottom)])], 8, Fr.emp, [], 0⟩ (by kernel_rfl) ?_
        refine RW.nil ?_
        refine hQ_18 _ ?_
        obtain rfl := Option.some.inj h
        exact AW.ret (hR_0 _ (retX (.cons (.agg rfl rfl (Nat.le_of_ble_eq_true rfl)) (.cons (.tmp rfl) .nil)) (.refl _) rfl (by kernel_rfl) (by kernel_rfl)))
def g75_2 : (Int × Int) → Option (Ctl (Int × Int) (Int)) := fun  (n1, m) => bif (decide (0 < m)) then ((must (decide (m ≠ 0))).bind fun _ => some (.next (m, (n1.tmod m)))) else (some (.brk n1))
def g75 (top : Int) (bottom : Int) : Option StandRatio := (whileC g75_2 1000 ((max top (wr (-top))), bottom)).bind fun n => (must (decide (n ≠ 0))).bind fun _ => (must (decide (n ≠ 0))).bind fun _ => some (StandRatio.mk (wr (top.tdiv n)) (wr (bottom.tdiv n)))
theorem k75 (top : Int) (bottom : Int) (r : StandRatio) (h : g75 top bottom = some r) : SCall Tryd.prog Gs 75 [.d (I top), .d (I bottom)] [] 0 Fr.emp (.agg [.d (I r.Top), .d (I r.Bottom)]) [] 0 Fr.emp := by
  unfold g75 at h
  refine SCall.mkK Tryd.func75 c75 rfl rfl (by kernel_rfl) (fun Q_0 hR_0 hN_0 => ?_)
  refine AW.sa fokW [] ⟨[(0, .d (I top)), (1, .d (I bottom)), (4, .ptr 0 0)], [(0, .var 34 [.d (I 0), .d (I 0)])], 1, Fr.emp, [], 0⟩ (by kernel_rfl) ?_
  refine AW.sa fokW [] ⟨[(0, .d (I top)), (1, .d (I bottom)), (4, .ptr 0 0), (5, .d (I (max top (wr (-top))))), (6, .d (I bottom))], [(0, .var 34 [.d (I 0), .d (I 0)])], 1, Fr.emp, [], 0⟩ (by kernel_rfl) ?_
  obtain ⟨n, hx_1, h⟩ := bsome h
  refine AW.jnSK (fun (n : Int) => ⟨[(0, .d (I top)), (1, .d (I bottom)), (4, .ptr 0 0), (5, .d (I n))], [(0, .var 34 [.d (I 0), .d (I 0)])], 1, Fr.emp, [], 0⟩) (c := n) (fun K_1 hK_1 => ?_) ?_
  · have h := hx_1
    refine AW.block ?_
    refine AW.whK (fun (⟨n1, m⟩ : Int × Int) => ⟨[(0, .d (I top)), (1, .d (I bottom)), (4, .ptr 0 0), (5, .d (I n1)), (6, .d (I m))], [(0, .var 34 [.d (I 0), .d (I 0)])], 1, Fr.emp, [], 0⟩) g75_2 h (Can.kp (by kernel_rfl)) (fun s_2 c_2 h hb_2 K_2 hK_2 => ?_)
    obtain ⟨n1, m⟩ := s_2
    unfold g75_2 at h
    refine AW.seqK (fun K_3 hK_3 => ?_)
    refine AW.sa fokW [] ⟨[(0, .d (I top)), (1, .d (I bottom)), (4, .ptr 0 0), (5, .d (I n1)), (6, .d (I m)), (13, .d (.bool (decide (0 < m))))], [(0, .var 34 [.d (I 0), .d (I 0)])], 1, Fr.emp, [], 0⟩ (by kernel_rfl) ?_
    refine AW.cond rfl (fun hb_4 => ?_) (fun hb_4 => ?_)
    · have h := ifT hb_4 h
      refine AW.skip ?_
      refine hK_3 _ ?_
      refine AW.block ?_
      refine AW.drw fokW ?_
      refine RunC.auX 3 ⟨[(0, .d (I top)), (1, .d (I bottom)), (4, .ptr 0 0), (14, .d (I m)), (15, .d (I n1)), (16, .d (I m))], [(0, .var 34 [.d (I 0), .d (I 0)])], 1, Fr.emp, [], 0⟩ (by kernel_rfl) ?_
      obtain ⟨_, hv_6, h⟩ := bsome h
      refine r_rem trivial rfl rfl (of_decide_eq_true (must_ok hv_6)) ?_
      refine RunC.auX 2 ⟨[(0, .d (I top)), (1, .d (I bottom)), (4, .ptr 0 0), (5, .d (I m)), (6, .d (I (n1.tmod m)))], [(0, .var 34 [.d (I 0), .d (I 0)])], 1, Fr.emp, [], 0⟩ (by kernel_rfl) ?_
      refine RunC.fin ⟨[(0, .d (I top)), (1, .d (I bottom)), (4, .ptr 0 0), (5, .d (I m)), (6, .d (I (n1.tmod m)))], [(0, .var 34 [.d (I 0), .d (I 0)])], 1, Fr.emp, [], 0⟩ (by kernel_rfl) (by kernel_rfl) ?_
      obtain rfl := Option.some.inj h
      exact hK_2 _ _ rfl (Can.kp (by kernel_rfl))
    · have h := ifF hb_4 h
      refine AW.exit ?_
      obtain rfl := Option.some.inj h
      obtain rfl := hb_2 _ rfl
      exact hK_1 _ (Can.kp (by kernel_rfl))
  · refine AW.sdrwK fokW (fun Q_7 hQ_7 => ?_)
    refine RunC.auX 2 ⟨[(1, .d (I bottom)), (4, .ptr 0 0), (5, .d (I n)), (18, .d (I top)), (19, .d (I n))], [(0, .var 34 [.d (I 0), .d (I 0)])], 1, Fr.emp, [], 0⟩ (by kernel_rfl) ?_
    obtain ⟨_, hv_8, h⟩ := bsome h
    refine r_quoW trivial rfl rfl (of_decide_eq_true (must_ok hv_8)) ?_
    refine RunC.auX 2 ⟨[(4, .ptr 0 0), (20, .d (I (wr (top.tdiv n)))), (21, .d (I bottom)), (22, .d (I n))], [(0, .var 34 [.d (I 0), .d (I 0)])], 1, Fr.emp, [], 0⟩ (by kernel_rfl) ?_
    obtain ⟨_, hv_9, h⟩ := bsome h
    refine r_quoW trivial rfl rfl (of_decide_eq_true (must_ok hv_9)) ?_
    refine RunC.auX 2 ⟨[(4, .ptr 0 0)], [(0, .var 34 [.d (I (wr (top.tdiv n))), .d (I (wr (bottom.tdiv n)))])], 1, Fr.emp, [], 0⟩ (by kernel_rfl) ?_
    refine RunC.fin ⟨[(4, .ptr 0 0)], [(0, .var 34 [.d (I (wr (top.tdiv n))), .d (I (wr (bottom.tdiv n)))])], 1, Fr.emp, [], 0⟩ (by kernel_rfl) (by kernel_rfl) ?_
    refine hQ_7 _ ?_
    obtain rfl := Option.some.inj h
    exact AW.ret (hR_0 _ (retX (.cons (.agg rfl rfl (Nat.le_of_ble_eq_true rfl)) .nil) (.refl _) rfl (by kernel_rfl) (by kernel_rfl)))
def g23_14 (b : StandBook) (weight : Int) (lean : Int) : Int → (List Int) → (Int × Int) → Option (Int × Int) := fun i p1 (top, bottom) => (g74 b p1 weight lean).bind fun (r0_1_3, r1_1_1) => bif (decide ((wr (r0_1_3 * bottom)) < (wr (top * r1_1_1)))) then (some (r0_1_3, r1_1_1)) else (some (top, bottom))
def g23 (b : StandBook) (weight : Int) (lean : Int) : Option (StandRatio × Int) := ((g65 b weight).bind fun r0_1 => bif r0_1 then ((g66 b lean).bind fun r0_1_1 => (g71 b r0_1_1).bind fun (r0_4, r1_3) => some (r0_4, r1_3)) else ((g71 b false).bind fun (r0_4_1, r1_3_1) => some (r0_4_1, r1_3_1))).bind fun (l, e) => bif (decide (e ≠ 0)) then (some ((StandRatio.mk 0 0), e)) else ((ixL l 0).bind fun p => (g74 b p weight lean).bind fun (r0_1_2, r1_1) => (eachS (g23_14 b weight lean) l 0 (r0_1_2, r1_1)).bind fun (top, bottom) => (g75 top bottom).bind fun r0 => some (r0, 0))
theorem k23 (b : StandBook) (weight : Int) (lean : Int) (r : StandRatio × Int) (h : g23 b weight lean = some r) : SCall Tryd.prog Gs 23 [.agg [.d (I b.Kind), .d (I b.Front), .d (I b.Back), .d (I b.Radius), .d (.sl 4 (List.map e70 b.Parts)), .d (I b.Along), .d (I b.High), .d (I b.Lean_), .d (I b.Limit), .d (.sl 3 (List.map e65 b.Trials))], .d (I weight), .d (I lean)] [] 0 Fr.emp (match r with | (r0_3, r1_2) => .tup [.agg [.d (I r0_3.Top), .d (I r0_3.Bottom)], .d (I r1_2)]) [] 0 Fr.emp := by
  unfold g23 at h
  refine SCall.mkK Tryd.func23 c23 rfl rfl (by kernel_rfl) (fun Q_0 hR_0 hN_0 => ?_)
  refine AW.sa fokW [] ⟨[(1, .d (I weight)), (2, .d (I lean)), (3, .ptr 0 0), (6, .ptr 1 0)], [(1, .var 34 [.d (I 0), .d (I 0)]), (0, .var 25 (cv25 b))], 2, Fr.emp, [], 0⟩ (by kernel_rfl) ?_
  obtain ⟨c_1, hx_1, h⟩ := bsome h
  refine AW.jnSK (fun (⟨l, e⟩ : (List (List Int)) × Int) => ⟨[(1, .d (I weight)), (2, .d (I lean)), (3, .ptr 0 0), (6, .ptr 1 0), (8, .d (.sl 1 (List.map e47 l))), (9, .d (I e))], [(1, .var 34 [.d (I 0), .d (I 0)]), (0, .var 25 (cv25 b))], 2, Fr.emp, [], 0⟩) (c := c_1) (fun K_1 hK_1 => ?_) ?_
  · have h := hx_1
    refine AW.drw fokW ?_
    refine RunC.auX 3 ⟨[(1, .d (I weight)), (2, .d (I lean)), (3, .ptr 0 0), (6, .ptr 1 0), (16, .agg [.d (I b.Kind), .d (I b.Front), .d (I b.Back), .d (I b.Radius), .d (.sl 4 (List.map e70 b.Parts)), .d (I b.Along), .d (I b.High), .d (I b.Lean_), .d (I b.Limit), .d (.sl 3 (List.map e65 b.Trials))]), (17, .agg [.d (I b.Kind), .d (I b.Front), .d (I b.Back), .d (I b.Radius), .d (.sl 4 (List.map e70 b.Parts)), .d (I b.Along), .d (I b.High), .d (I b.Lean_), .d (I b.Limit), .d (.sl 3 (List.map e65 b.Trials))]), (18, .d (I weight))], [(1, .var 34 [.d (I 0), .d (I 0)]), (0, .var 25 (cv25 b))], 2, Fr.emp, [], 0⟩ (by kernel_rfl) ?_
    obtain ⟨r0_1, hx_3, h⟩ := bsome h
    refine r_call trivial rfl (k65 b weight _ hx_3) rfl rfl ?_
    refine RunC.auX 1 ⟨[(1, .d (I weight)), (2, .d (I lean)), (3, .ptr 0 0), (6, .ptr 1 0), (16, .agg [.d (I b.Kind), .d (I b.Front), .d (I b.Back), .d (I b.Radius), .d (.sl 4 (List.map e70 b.Parts)), .d (I b.Along), .d (I b.High), .d (I b.Lean_), .d (I b.Limit), .d (.sl 3 (List.map e65 b.Trials))]), (20, .d (.bool r0_1))], [(1, .var 34 [.d (I 0), .d (I 0)]), (0, .var 25 (cv25 b))], 2, Fr.emp, [], 0⟩ (by kernel_rfl) ?_
    refine r_split 20 rfl (fun hb_4 => ?_) (fun hb_4 => ?_)
    · have h := ifT hb_4 h
      refine RunC.auX 2 ⟨[(1, .d (I weight)), (2, .d (I lean)), (3, .ptr 0 0), (6, .ptr 1 0), (16, .agg [.d (I b.Kind), .d (I b.Front), .d (I b.Back), .d (I b.Radius), .d (.sl 4 (List.map e70 b.Parts)), .d (I b.Along), .d (I b.High), .d (I b.Lean_), .d (I b.Limit), .d (.sl 3 (List.map e65 b.Trials))]), (20, .d (.bool true)), (21, .agg [.d (I b.Kind), .d (I b.Front), .d (I b.Back), .d (I b.Radius), .d (.sl 4 (List.map e70 b.Parts)), .d (I b.Along), .d (I b.High), .d (I b.Lean_), .d (I b.Limit), .d (.sl 3 (List.map e65 b.Trials))]), (22, .d (I lean))], [(1, .var 34 [.d (I 0), .d (I 0)]), (0, .var 25 (cv25 b))], 2, Fr.emp, [], 0⟩ (by kernel_rfl) ?_
      obtain ⟨r0_1_1, hx_5, h⟩ := bsome h
      refine r_call rfl rfl (k66 b lean _ hx_5) rfl rfl ?_
      refine RunC.auX 1 ⟨[(1, .d (I weight)), (2, .d (I lean)), (3, .ptr 0 0), (6, .ptr 1 0), (16, .agg [.d (I b.Kind), .d (I b.Front), .d (I b.Back), .d (I b.Radius), .d (.sl 4 (List.map e70 b.Parts)), .d (I b.Along), .d (I b.High), .d (I b.Lean_), .d (I b.Limit), .d (.sl 3 (List.map e65 b.Trials))]), (24, .d (.bool r0_1_1))], [(1, .var 34 [.d (I 0), .d (I 0)]), (0, .var 25 (cv25 b))], 2, Fr.emp, [], 0⟩ (by kernel_rfl) ?_
      obtain ⟨⟨r0_4, r1_3⟩, hx_6, h⟩ := bsome h
      refine r_call trivial rfl (k71 b r0_1_1 _ hx_6) rfl rfl ?_
      refine RunC.auX 5 ⟨[(1, .d (I weight)), (2, .d (I lean)), (3, .ptr 0 0), (6, .ptr 1 0), (8, .d (.sl 1 (List.map e47 r0_4))), (9, .d (I r1_3))], [(1, .var 34 [.d (I 0), .d (I 0)]), (0, .var 25 (cv25 b))], 2, Fr.emp, [], 0⟩ (by kernel_rfl) ?_
      refine RunC.fin ⟨[(1, .d (I weight)), (2, .d (I lean)), (3, .ptr 0 0), (6, .ptr 1 0), (8, .d (.sl 1 (List.map e47 r0_4))), (9, .d (I r1_3))], [(1, .var 34 [.d (I 0), .d (I 0)]), (0, .var 25 (cv25 b))], 2, Fr.emp, [], 0⟩ (by kernel_rfl) (by kernel_rfl) ?_
      obtain rfl := Option.some.inj h
      exact hK_1 _ (Can.kp (by kernel_rfl))
    · have h := ifF hb_4 h
      refine RunC.auX 4 ⟨[(1, .d (I weight)), (2, .d (I lean)), (3, .ptr 0 0), (6, .ptr 1 0), (16, .agg [.d (I b.Kind), .d (I b.Front), .d (I b.Back), .d (I b.Radius), .d (.sl 4 (List.map e70 b.Parts)), .d (I b.Along), .d (I b.High), .d (I b.Lean_), .d (I b.Limit), .d (.sl 3 (List.map e65 b.Trials))]), (24, .d (.bool false))], [(1, .var 34 [.d (I 0), .d (I 0)]), (0, .var 25 (cv25 b))], 2, Fr.emp, [], 0⟩ (by kernel_rfl) ?_
      obtain ⟨⟨r0_4_1, r1_3_1⟩, hx_7, h⟩ := bsome h
      refine r_call trivial rfl (k71 b false _ hx_7) rfl rfl ?_
      refine RunC.auX 5 ⟨[(1, .d (I weight)), (2, .d (I lean)), (3, .ptr 0 0), (6, .ptr 1 0), (8, .d (.sl 1 (List.map e47 r0_4_1))), (9, .d (I r1_3_1))], [(1, .var 34 [.d (I 0), .d (I 0)]), (0, .var 25 (cv25 b))], 2, Fr.emp, [], 0⟩ (by kernel_rfl) ?_
      refine RunC.fin ⟨[(1, .d (I weight)), (2, .d (I lean)), (3, .ptr 0 0), (6, .ptr 1 0), (8, .d (.sl 1 (List.map e47 r0_4_1))), (9, .d (I r1_3_1))], [(1, .var 34 [.d (I 0), .d (I 0)]), (0, .var 25 (cv25 b))], 2, Fr.emp, [], 0⟩ (by kernel_rfl) (by kernel_rfl) ?_
      obtain rfl := Option.some.inj h
      exact hK_1 _ (Can.kp (by kernel_rfl))
  · obtain ⟨l, e⟩ := c_1
    refine AW.seqK (fun K_8 hK_8 => ?_)
    refine AW.sa fokW [] ⟨[(1, .d (I weight)), (2, .d (I lean)), (3, .ptr 0 0), (6, .ptr 1 0), (8, .d (.sl 1 (List.map e47 l))), (9, .d (I e)), (29, .d (.bool (decide (e ≠ 0))))], [(1, .var 34 [.d (I 0), .d (I 0)]), (0, .var 25 (cv25 b))], 2, Fr.emp, [], 0⟩ (by kernel_rfl) ?_
    refine AW.cond rfl (fun hb_9 => ?_) (fun hb_9 => ?_)
    · have h := ifT hb_9 h
      refine AW.sa fokW [] ⟨[(6, .ptr 1 0), (7, .d (I e))], [(1, .var 34 [.d (I 0), .d (I 0)])], 2, Fr.emp, [], 0⟩ (by kernel_rfl) ?_
      obtain rfl := Option.some.inj h
      exact AW.ret (hR_0 _ (retX (.cons (.agg rfl rfl (Nat.le_of_ble_eq_true rfl)) (.cons (.tmp rfl) .nil)) (.refl _) rfl (by kernel_rfl) (by kernel_rfl)))
    · have h := ifF hb_9 h
      refine AW.skip ?_
      refine hK_8 _ ?_
      refine AW.sdrwK fokW (fun Q_10 hQ_10 => ?_)
      refine RunC.auX 2 ⟨[(1, .d (I weight)), (2, .d (I lean)), (3, .ptr 0 0), (6, .ptr 1 0), (8, .d (.sl 1 (List.map e47 l))), (33, .agg [.d (I b.Kind), .d (I b.Front), .d (I b.Back), .d (I b.Radius), .d (.sl 4 (List.map e70 b.Parts)), .d (I b.Along), .d (I b.High), .d (I b.Lean_), .d (I b.Limit), .d (.sl 3 (List.map e65 b.Trials))]), (34, .d (.sl 1 (List.map e47 l)))], [(1, .var 34 [.d (I 0), .d (I 0)]), (0, .var 25 (cv25 b))], 2, Fr.emp, [], 0⟩ (by kernel_rfl) ?_
      obtain ⟨p, hv_11, h⟩ := bsome h
      refine r_iaD trivial rfl rfl (ixL_ok hv_11).1 (row := e47 p) (mapget (ixL_ok hv_11).2) ?_
      refine RunC.auX 3 ⟨[(1, .d (I weight)), (2, .d (I lean)), (3, .ptr 0 0), (6, .ptr 1 0), (8, .d (.sl 1 (List.map e47 l))), (33, .agg [.d (I b.Kind), .d (I b.Front), .d (I b.Back), .d (I b.Radius), .d (.sl 4 (List.map e70 b.Parts)), .d (I b.Along), .d (I b.High), .d (I b.Lean_), .d (I b.Limit), .d (.sl 3 (List.map e65 b.Trials))]), (36, .d (.sl 1 (List.map e3 p))), (37, .d (I weight)), (38, .d (I lean))], [(1, .var 34 [.d (I 0), .d (I 0)]), (0, .var 25 (cv25 b))], 2, Fr.emp, [], 0⟩ (by kernel_rfl) ?_
      obtain ⟨⟨r0_1_2, r1_1⟩, hx_12, h⟩ := bsome h
      refine r_call trivial rfl (k74 b p weight lean _ hx_12) rfl rfl ?_
      refine RunC.auX 5 ⟨[(1, .d (I weight)), (2, .d (I lean)), (3, .ptr 0 0), (6, .ptr 1 0), (8, .d (.sl 1 (List.map e47 l))), (10, .d (I r0_1_2)), (11, .d (I r1_1))], [(1, .var 34 [.d (I 0), .d (I 0)]), (0, .var 25 (cv25 b))], 2, Fr.emp, [], 0⟩ (by kernel_rfl) ?_
      refine RunC.fin ⟨[(1, .d (I weight)), (2, .d (I lean)), (3, .ptr 0 0), (6, .ptr 1 0), (8, .d (.sl 1 (List.map e47 l))), (10, .d (I r0_1_2)), (11, .d (I r1_1))], [(1, .var 34 [.d (I 0), .d (I 0)]), (0, .var 25 (cv25 b))], 2, Fr.emp, [], 0⟩ (by kernel_rfl) (by kernel_rfl) ?_
      refine hQ_10 _ ?_
      refine AW.seqK (fun K_13 hK_13 => ?_)
      refine AW.sa fokW [] ⟨[(1, .d (I weight)), (2, .d (I lean)), (3, .ptr 0 0), (6, .ptr 1 0), (8, .d (.sl 1 (List.map e47 l))), (10, .d (I r0_1_2)), (11, .d (I r1_1)), (12, .d (I 0))], [(1, .var 34 [.d (I 0), .d (I 0)]), (0, .var 25 (cv25 b))], 2, Fr.emp, [], 0⟩ (by kernel_rfl) ?_
      refine AW.block ?_
      refine AW.sln (t := 8) rfl (fun hN_14 => ?_)
      rw [List.length_map] at hN_14
      obtain ⟨out_14, hx_14, h⟩ := bsome h
      refine AW.evSK (fun (i : Int) (⟨top, bottom⟩ : Int × Int) => ⟨[(1, .d (I weight)), (2, .d (I lean)), (3, .ptr 0 0), (6, .ptr 1 0), (8, .d (.sl 1 (List.map e47 l))), (10, .d (I top)), (11, .d (I bottom)), (12, .d (I i))], [(1, .var 34 [.d (I 0), .d (I 0)]), (0, .var 25 (cv25 b))], 2, Fr.emp, [], 0⟩) (g23_14 b weight lean) hx_14 (Can.kp (by kernel_rfl)) (fun i p1 s_14 hi_14 hl_14 hp_14 c_14 h K_14 hK_14 => ?_) (fun i s_14 hi_14 hl_14 hout => ?_)
      · obtain ⟨top, bottom⟩ := s_14
        unfold g23_14 at h
        refine AW.seqK (fun K_15 hK_15 => ?_)
        refine AW.srwK (fun Q_16 hQ_16 => ?_)
        refine RW.au fokW 2 [] ⟨[(1, .d (I weight)), (2, .d (I lean)), (3, .ptr 0 0), (6, .ptr 1 0), (8, .d (.sl 1 (List.map e47 l))), (10, .d (I top)), (11, .d (I bottom)), (12, .d (I i)), (42, .d (I i)), (43, .d (.sl 1 (List.map e47 l)))], [(1, .var 34 [.d (I 0), .d (I 0)]), (0, .var 25 (cv25 b))], 2, Fr.emp, [], 0⟩ (by kernel_rfl) ?_
        refine RW.one fokW (r_lenX trivial rfl lenm (r_end ?_))
        refine RW.au fokW 1 [] ⟨[(1, .d (I weight)), (2, .d (I lean)), (3, .ptr 0 0), (6, .ptr 1 0), (8, .d (.sl 1 (List.map e47 l))), (10, .d (I top)), (11, .d (I bottom)), (12, .d (I i)), (45, .d (.bool (decide (i < (l.length : Int)))))], [(1, .var 34 [.d (I 0), .d (I 0)]), (0, .var 25 (cv25 b))], 2, Fr.emp, [], 0⟩ (by kernel_rfl) ?_
        refine RW.nil ?_
        refine hQ_16 _ ?_
        refine AW.cond rfl (fun hb_17 => ?_) (fun hb_17 => False.elim (by have := of_decide_eq_false hb_17; omega))
        refine AW.skip ?_
        refine hK_15 _ ?_
        refine AW.seqK (fun K_18 hK_18 => ?_)
        refine AW.block ?_
        refine AW.sdrwK fokW (fun Q_19 hQ_19 => ?_)
        refine RunC.auX 3 ⟨[(1, .d (I weight)), (2, .d (I lean)), (3, .ptr 0 0), (6, .ptr 1 0), (8, .d (.sl 1 (List.map e47 l))), (10, .d (I top)), (11, .d (I bottom)), (12, .d (I i)), (49, .agg [.d (I b.Kind), .d (I b.Front), .d (I b.Back), .d (I b.Radius), .d (.sl 4 (List.map e70 b.Parts)), .d (I b.Along), .d (I b.High), .d (I b.Lean_), .d (I b.Limit), .d (.sl 3 (List.map e65 b.Trials))]), (50, .d (.sl 1 (List.map e47 l))), (51, .d (I i))], [(1, .var 34 [.d (I 0), .d (I 0)]), (0, .var 25 (cv25 b))], 2, Fr.emp, [], 0⟩ (by kernel_rfl) ?_
        refine r_iaD trivial rfl rfl hi_14 (row := e47 p1) (mapget hp_14) ?_
        refine RunC.auX 3 ⟨[(1, .d (I weight)), (2, .d (I lean)), (3, .ptr 0 0), (6, .ptr 1 0), (8, .d (.sl 1 (List.map e47 l))), (10, .d (I top)), (11, .d (I bottom)), (12, .d (I i)), (49, .agg [.d (I b.Kind), .d (I b.Front), .d (I b.Back), .d (I b.Radius), .d (.sl 4 (List.map e70 b.Parts)), .d (I b.Along), .d (I b.High), .d (I b.Lean_), .d (I b.Limit), .d (.sl 3 (List.map e65 b.Trials))]), (53, .d (.sl 1 (List.map e3 p1))), (54, .d (I weight)), (55, .d (I lean))], [(1, .var 34 [.d (I 0), .d (I 0)]), (0, .var 25 (cv25 b))], 2, Fr.emp, [], 0⟩ (by kernel_rfl) ?_
        obtain ⟨⟨r0_1_3, r1_1_1⟩, hx_20, h⟩ := bsome h
        refine r_call trivial rfl (k74 b p1 weight lean _ hx_20) rfl rfl ?_
        refine RunC.auX 5 ⟨[(1, .d (I weight)), (2, .d (I lean)), (3, .ptr 0 0), (6, .ptr 1 0), (8, .d (.sl 1 (List.map e47 l))), (10, .d (I top)), (11, .d (I bottom)), (12, .d (I i)), (13, .d (I r0_1_3)), (14, .d (I r1_1_1))], [(1, .var 34 [.d (I 0), .d (I 0)]), (0, .var 25 (cv25 b))], 2, Fr.emp, [], 0⟩ (by kernel_rfl) ?_
        refine RunC.fin ⟨[(1, .d (I weight)), (2, .d (I lean)), (3, .ptr 0 0), (6, .ptr 1 0), (8, .d (.sl 1 (List.map e47 l))), (10, .d (I top)), (11, .d (I bottom)), (12, .d (I i)), (13, .d (I r0_1_3)), (14, .d (I r1_1_1))], [(1, .var 34 [.d (I 0), .d (I 0)]), (0, .var 25 (cv25 b))], 2, Fr.emp, [], 0⟩ (by kernel_rfl) (by kernel_rfl) ?_
        refine hQ_19 _ ?_
        refine AW.sa fokW [] ⟨[(1, .d (I weight)), (2, .d (I lean)), (3, .ptr 0 0), (6, .ptr 1 0), (8, .d (.sl 1 (List.map e47 l))), (10, .d (I top)), (11, .d (I bottom)), (12, .d (I i)), (13, .d (I r0_1_3)), (14, .d (I r1_1_1)), (65, .d (.bool (decide ((wr (r0_1_3 * bottom)) < (wr (top * r1_1_1))))))], [(1, .var 34 [.d (I 0), .d (I 0)]), (0, .var 25 (cv25 b))], 2, Fr.emp, [], 0⟩ (by kernel_rfl) ?_
        refine AW.cond rfl (fun hb_21 => ?_) (fun hb_21 => ?_)
        · have h := ifT hb_21 h
          refine AW.ra fokW [] ⟨[(1, .d (I weight)), (2, .d (I lean)), (3, .ptr 0 0), (6, .ptr 1 0), (8, .d (.sl 1 (List.map e47 l))), (10, .d (I r0_1_3)), (11, .d (I r1_1_1)), (12, .d (I i))], [(1, .var 34 [.d (I 0), .d (I 0)]), (0, .var 25 (cv25 b))], 2, Fr.emp, [], 0⟩ (by kernel_rfl) ?_
          refine hK_18 _ ?_
          refine AW.ra fokW [] ⟨[(1, .d (I weight)), (2, .d (I lean)), (3, .ptr 0 0), (6, .ptr 1 0), (8, .d (.sl 1 (List.map e47 l))), (10, .d (I r0_1_3)), (11, .d (I r1_1_1)), (12, .d (I (wr (i + 1))))], [(1, .var 34 [.d (I 0), .d (I 0)]), (0, .var 25 (cv25 b))], 2, Fr.emp, [], 0⟩ (by kernel_rfl) ?_
          obtain rfl := Option.some.inj h
          have ew : wr (i + 1) = i + 1 := inext (N := (l.length : Int)) (by omega) (by omega) (by omega)
          rw [ew]
          exact hK_14 _ (Can.kp (by kernel_rfl))
        · have h := ifF hb_21 h
          refine AW.skip ?_
          refine hK_18 _ ?_
          refine AW.ra fokW [] ⟨[(1, .d (I weight)), (2, .d (I lean)), (3, .ptr 0 0), (6, .ptr 1 0), (8, .d (.sl 1 (List.map e47 l))), (10, .d (I top)), (11, .d (I bottom)), (12, .d (I (wr (i + 1))))], [(1, .var 34 [.d (I 0), .d (I 0)]), (0, .var 25 (cv25 b))], 2, Fr.emp, [], 0⟩ (by kernel_rfl) ?_
          obtain rfl := Option.some.inj h
          have ew : wr (i + 1) = i + 1 := inext (N := (l.length : Int)) (by omega) (by omega) (by omega)
          rw [ew]
          exact hK_14 _ (Can.kp (by kernel_rfl))
      · obtain ⟨top, bottom⟩ := s_14
        subst hout
        refine AW.seqK (fun K_22 hK_22 => ?_)
        refine AW.srwK (fun Q_23 hQ_23 => ?_)
        refine RW.au fokW 2 [] ⟨[(1, .d (I weight)), (2, .d (I lean)), (3, .ptr 0 0), (6, .ptr 1 0), (8, .d (.sl 1 (List.map e47 l))), (10, .d (I top)), (11, .d (I bottom)), (12, .d (I i)), (42, .d (I i)), (43, .d (.sl 1 (List.map e47 l)))], [(1, .var 34 [.d (I 0), .d (I 0)]), (0, .var 25 (cv25 b))], 2, Fr.emp, [], 0⟩ (by kernel_rfl) ?_
        refine RW.one fokW (r_lenX trivial rfl lenm (r_end ?_))
        refine RW.au fokW 1 [] ⟨[(1, .d (I weight)), (2, .d (I lean)), (3, .ptr 0 0), (6, .ptr 1 0), (8, .d (.sl 1 (List.map e47 l))), (10, .d (I top)), (11, .d (I bottom)), (12, .d (I i)), (45, .d (.bool (decide (i < (l.length : Int)))))], [(1, .var 34 [.d (I 0), .d (I 0)]), (0, .var 25 (cv25 b))], 2, Fr.emp, [], 0⟩ (by kernel_rfl) ?_
        refine RW.nil ?_
        refine hQ_23 _ ?_
        refine AW.cond rfl (fun hb_24 => False.elim (by have := of_decide_eq_true hb_24; omega)) (fun hb_24 => ?_)
        refine AW.exit ?_
        refine hK_13 _ ?_
        refine AW.srwK (fun Q_25 hQ_25 => ?_)
        refine RW.au fokW 2 [] ⟨[(6, .ptr 1 0), (68, .d (I top)), (69, .d (I bottom))], [(1, .var 34 [.d (I 0), .d (I 0)])], 2, Fr.emp, [], 0⟩ (by kernel_rfl) ?_
        obtain ⟨r0, hx_26, h⟩ := bsome h
        refine RW.one fokW (r_call trivial rfl (k75 top bottom _ hx_26) rfl rfl (r_end ?_))
        refine RW.au fokW 2 [] ⟨[(6, .ptr 1 0), (7, .d (I 0))], [(1, .var 34 [.d (I r0.Top), .d (I r0.Bottom)])], 2, Fr.emp, [], 0⟩ (by kernel_rfl) ?_
        refine RW.nil ?_
        refine hQ_25 _ ?_
        obtain rfl := Option.some.inj h
        exact AW.ret (hR_0 _ (retX (.cons (.agg rfl rfl (Nat.le_of_ble_eq_true rfl)) (.cons (.tmp rfl) .nil)) (.refl _) rfl (by kernel_rfl) (by kernel_rfl)))
def g46 (low : Int) (high : Int) : Option Span := some (Span.mk low high)
theorem k46 (low : Int) (high : Int) (r : Span) (h : g46 low high = some r) : SCall Tryd.prog Gs 46 [.d (I low), .d (I high)] [] 0 Fr.emp (.agg [.d (I r.Low), .d (I r.High)]) [] 0 Fr.emp := by
  unfold g46 at h
  refine SCall.mkK Tryd.func46 c46 rfl rfl (by kernel_rfl) (fun Q_0 hR_0 hN_0 => ?_)
  refine AW.sa fokW [] ⟨[(0, .d (I low)), (1, .d (I high)), (4, .ptr 0 0)], [(0, .var 42 [.d (I 0), .d (I 0)])], 1, Fr.emp, [], 0⟩ (by kernel_rfl) ?_
  refine AW.sa fokW [] ⟨[(4, .ptr 0 0)], [(0, .var 42 [.d (I low), .d (I high)])], 1, Fr.emp, [], 0⟩ (by kernel_rfl) ?_
  obtain rfl := Option.some.inj h
  exact AW.ret (hR_0 _ (retX (.cons (.agg rfl rfl (Nat.le_of_ble_eq_true rfl)) .nil) (.refl _) rfl (by kernel_rfl) (by kernel_rfl)))
def g57 (l : (List StandTrial)) : Option StandBook := (g46 20 22).bind fun r0 => (g46 4 5).bind fun r0_1 => some (StandBook.mk 0 10 4 0 [(StandPart.mk r0 0 30), (StandPart.mk r0_1 15 40)] (-4) 36 8 30 l)
theorem k57 (l : (List StandTrial)) (r : StandBook) (h : g57 l = some r) : SCall Tryd.prog Gs 57 [.d (.sl 3 (List.map e65 l))] [] 0 Fr.emp (.agg [.d (I r.Kind), .d (I r.Front), .d (I r.Back), .d (I r.Radius), .d (.sl 4 (List.map e70 r.Parts)), .d (I r.Along), .d (I r.High), .d (I r.Lean_), .d (I r.Limit), .d (.sl 3 (List.map e65 r.Trials))]) [] 0 Fr.emp := by
  unfold g57 at h
  refine SCall.mkK Tryd.func57 c57 rfl rfl (by kernel_rfl) (fun Q_0 hR_0 hN_0 => ?_)
  refine AW.sa fokW [] ⟨[(0, .d (.sl 3 (List.map e65 l))), (2, .ptr 0 0)], [(0, .var 25 [.d (I 0), .d (I 0), .d (I 0), .d (I 0), .d (.nilSl), .d (I 0), .d (I 0), .d (I 0), .d (I 0), .d (.nilSl)])], 1, Fr.emp, [], 0⟩ (by kernel_rfl) ?_
  refine AW.srwK (fun Q_1 hQ_1 => ?_)
  obtain ⟨r0, hx_2, h⟩ := bsome h
  refine RW.one fokW (r_call trivial rfl (k46 20 22 _ hx_2) rfl rfl (r_end ?_))
  refine RW.au fokW 1 [] ⟨[(0, .d (.sl 3 (List.map e65 l))), (2, .ptr 0 0), (4, .agg [.d (I r0.Low), .d (I r0.High), .d (I 0), .d (I 30)])], [(0, .var 25 [.d (I 0), .d (I 0), .d (I 0), .d (I 0), .d (.nilSl), .d (I 0), .d (I 0), .d (I 0), .d (I 0), .d (.nilSl)])], 1, Fr.emp, [], 0⟩ (by kernel_rfl) ?_
  obtain ⟨r0_1, hx_3, h⟩ := bsome h
  refine RW.one fokW (r_call trivial rfl (k46 4 5 _ hx_3) rfl rfl (r_end ?_))
  refine RW.au fokW 5 [] ⟨[(2, .ptr 0 0)], [(0, .var 25 [.d (I 0), .d (I 10), .d (I 4), .d (I 0), .own 1 (List.map e70 [(StandPart.mk r0 0 30), (StandPart.mk r0_1 15 40)]).length, .d (I (-4)), .d (I 36), .d (I 8), .d (I 30), .d (.sl 3 (List.map e65 l))]), (1, .row 70 4 (List.map e70 [(StandPart.mk r0 0 30), (StandPart.mk r0_1 15 40)]))], 2, Fr.emp, [], 0⟩ (by kernel_rfl) ?_
  refine RW.nil ?_
  refine hQ_1 _ ?_
  obtain rfl := Option.some.inj h
  exact AW.ret (hR_0 _ (retX (.cons (.agg rfl rfl (Nat.le_of_ble_eq_true rfl)) .nil) (Frz.agg_of ⟨.refl _, .refl _, .refl _, .refl _, (.own rfl rfl), .refl _, .refl _, .refl _, .refl _, .refl _, trivial⟩) rfl (by kernel_rfl) (by kernel_rfl)))
def g55  : Option StandBook := (g57 ([] : (List StandTrial))).bind fun r0_2 => some r0_2
theorem k55  (r : StandBook) (h : g55 = some r) : SCall Tryd.prog Gs 55 [] [] 0 Fr.emp (.agg [.d (I r.Kind), .d (I r.Front), .d (I r.Back), .d (I r.Radius), .d (.sl 4 (List.map e70 r.Parts)), .d (I r.Along), .d (I r.High), .d (I r.Lean_), .d (I r.Limit), .d (.sl 3 (List.map e65 r.Trials))]) [] 0 Fr.emp := by
  unfold g55 at h
  refine SCall.mkK Tryd.func55 c55 rfl rfl (by kernel_rfl) (fun Q_0 hR_0 hN_0 => ?_)
  refine AW.sa fokW [] ⟨[(0, .ptr 0 0)], [(0, .var 25 [.d (I 0), .d (I 0), .d (I 0), .d (I 0), .d (.nilSl), .d (I 0), .d (I 0), .d (I 0), .d (I 0), .d (.nilSl)])], 1, Fr.emp, [], 0⟩ (by kernel_rfl) ?_
  refine AW.srwK (fun Q_1 hQ_1 => ?_)
  obtain ⟨r0_2, hx_2, h⟩ := bsome h
  refine RW.one fokW (r_callZ (zr := []) trivial rfl (k57 ([] : (List StandTrial)) _ hx_2) trivial ⟨(.nil 3), trivial⟩ rfl rfl rfl rfl (r_end ?_))
  refine RW.au fokW 1 [] ⟨[(0, .ptr 0 0)], [(0, .var 25 (cv25 r0_2))], 1, Fr.emp, [], 0⟩ (by kernel_rfl) ?_
  refine RW.nil ?_
  refine hQ_1 _ ?_
  obtain rfl := Option.some.inj h
  exact AW.ret (hR_0 _ (retX (.cons (.agg rfl rfl (Nat.le_of_ble_eq_true rfl)) .nil) (.refl _) rfl (by kernel_rfl) (by kernel_rfl)))
def g47 (weight : Int) (lean : Int) (tipped : Bool) : Option StandTrial := some (StandTrial.mk weight lean tipped)
theorem k47 (weight : Int) (lean : Int) (tipped : Bool) (r : StandTrial) (h : g47 weight lean tipped = some r) : SCall Tryd.prog Gs 47 [.d (I weight), .d (I lean), .d (.bool tipped)] [] 0 Fr.emp (.agg [.d (I r.Weight), .d (I r.Lean_), .d (.bool r.Tipped)]) [] 0 Fr.emp := by
  unfold g47 at h
  refine SCall.mkK Tryd.func47 c47 rfl rfl (by kernel_rfl) (fun Q_0 hR_0 hN_0 => ?_)
  refine AW.sa fokW [] ⟨[(0, .d (I weight)), (1, .d (I lean)), (2, .d (.bool tipped)), (6, .ptr 0 0)], [(0, .var 65 [.d (I 0), .d (I 0), .d (.bool false)])], 1, Fr.emp, [], 0⟩ (by kernel_rfl) ?_
  refine AW.sa fokW [] ⟨[(6, .ptr 0 0)], [(0, .var 65 [.d (I weight), .d (I lean), .d (.bool tipped)])], 1, Fr.emp, [], 0⟩ (by kernel_rfl) ?_
  obtain rfl := Option.some.inj h
  exact AW.ret (hR_0 _ (retX (.cons (.agg rfl rfl (Nat.le_of_ble_eq_true rfl)) .nil) (.refl _) rfl (by kernel_rfl) (by kernel_rfl)))
def g59  : Option StandBook := (g47 21 (-8) false).bind fun r0 => (g57 [r0]).bind fun r0_2 => some r0_2
theorem k59  (r : StandBook) (h : g59 = some r) : SCall Tryd.prog Gs 59 [] [] 0 Fr.emp (.agg [.d (I r.Kind), .d (I r.Front), .d (I r.Back), .d (I r.Radius), .d (.sl 4 (List.map e70 r.Parts)), .d (I r.Along), .d (I r.High), .d (I r.Lean_), .d (I r.Limit), .d (.sl 3 (List.map e65 r.Trials))]) [] 0 Fr.emp := by
  unfold g59 at h
  refine SCall.mkK Tryd.func59 c59 rfl rfl (by kernel_rfl) (fun Q_0 hR_0 hN_0 => ?_)
  refine AW.sa fokW [] ⟨[(0, .ptr 0 0)], [(0, .var 25 [.d (I 0), .d (I 0), .d (I 0), .d (I 0), .d (.nilSl), .d (I 0), .d (I 0), .d (I 0), .d (I 0), .d (.nilSl)])], 1, Fr.emp, [], 0⟩ (by kernel_rfl) ?_
  refine AW.srwK (fun Q_1 hQ_1 => ?_)
  obtain ⟨r0, hx_2, h⟩ := bsome h
  refine RW.one fokW (r_call trivial rfl (k47 21 (-8) false _ hx_2) rfl rfl (r_end ?_))
  refine RW.au fokW 1 [] ⟨[(0, .ptr 0 0), (2, .own 1 (List.map e65 [r0]).length)], [(1, .row 65 3 (List.map e65 [r0])), (0, .var 25 [.d (I 0), .d (I 0), .d (I 0), .d (I 0), .d (.nilSl), .d (I 0), .d (I 0), .d (I 0), .d (I 0), .d (.nilSl)])], 2, Fr.emp, [], 0⟩ (by kernel_rfl) ?_
  obtain ⟨r0_2, hx_3, h⟩ := bsome h
  refine RW.one fokW (r_callZ (zr := [(1, .row 65 3 (List.map e65 [r0]))]) trivial rfl (k57 [r0] _ hx_3) ⟨rfl, trivial⟩ ⟨(.own rfl rfl), trivial⟩ rfl rfl rfl rfl (r_end ?_))
  refine RW.au fokW 1 [] ⟨[(0, .ptr 0 0)], [(0, .var 25 (cv25 r0_2))], 2, Fr.emp, [], 0⟩ (by kernel_rfl) ?_
  refine RW.nil ?_
  refine hQ_1 _ ?_
  obtain rfl := Option.some.inj h
  exact AW.ret (hR_0 _ (retX (.cons (.agg rfl rfl (Nat.le_of_ble_eq_true rfl)) .nil) (.refl _) rfl (by kernel_rfl) (by kernel_rfl)))
def g76a (b_StandBook : StandBook) (b_truths : (List (Nat → Int))) (b_lead : Stand_load) (weight : Int) (m0 : List (Stand_child × StandRatio)) : Option (Bool × (List (Stand_child × StandRatio))) := (g73a b_StandBook b_truths b_lead (Stand_child.mk weight (wr (-b_StandBook.Lean_))) m0).bind fun (r0_5, m0_2) => (bif (decide (0 ≤ r0_5.Top)) then ((g73a b_StandBook b_truths b_lead (Stand_child.mk weight b_StandBook.Lean_) m0_2).bind fun (r0_5_1, m0_2_1) => some ((decide (0 ≤ r0_5_1.Top)), m0_2_1)) else (some (false, m0_2))).bind fun (v, m) => some (v, m)
theorem k76a (b_StandBook : StandBook) (b_truths : (List (Nat → Int))) (b_lead : Stand_load) (weight : Int) (m0 : List (Stand_child × StandRatio)) (r : Bool × (List (Stand_child × StandRatio))) (h : g76a b_StandBook b_truths b_lead weight m0 = some r) : SCall Tryd.prog Gs 76 [.agg [.d (I b_StandBook.Kind), .d (I b_StandBook.Front), .d (I b_StandBook.Back), .d (I b_StandBook.Radius), .d (.sl 4 (List.map e70 b_StandBook.Parts)), .d (I b_StandBook.Along), .d (I b_StandBook.High), .d (I b_StandBook.Lean_), .d (I b_StandBook.Limit), .d (.sl 3 (List.map e65 b_StandBook.Trials)), .d (.sl 4 (List.map e92 b_truths)), .d (I b_lead.weight), .d (I b_lead.along), .d (I b_lead.high), .map 0], .d (I weight)] [(0, .mp (List.map m94_34 m0))] 1 Fr.emp (match r with | (r0, m0_1) => .d (.bool r0)) (match r with | (r0, m0_1) => [(0, .mp (List.map m94_34 m0_1))]) 1 Fr.emp := by
  unfold g76a at h
  refine SCall.mkK Tryd.func76 c76 rfl rfl (by kernel_rfl) (fun Q_0 hR_0 hN_0 => ?_)
  refine AW.sa fokW [] ⟨[(1, .d (I weight)), (2, .ptr 1 0)], [(1, .var 83 (catV (cv25 b_StandBook) [.d (.sl 4 (List.map e92 b_truths)), .d (I b_lead.weight), .d (I b_lead.along), .d (I b_lead.high), .map 0])), (0, .mp (List.map m94_34 m0))], 2, Fr.emp, [], 1⟩ (by kernel_rfl) ?_
  refine AW.srwK (fun Q_1 hQ_1 => ?_)
  refine RW.au fokW 7 [] ⟨[(1, .d (I weight)), (2, .ptr 1 0), (5, .agg [.d (I b_StandBook.Kind), .d (I b_StandBook.Front), .d (I b_StandBook.Back), .d (I b_StandBook.Radius), .d (.sl 4 (List.map e70 b_StandBook.Parts)), .d (I b_StandBook.Along), .d (I b_StandBook.High), .d (I b_StandBook.Lean_), .d (I b_StandBook.Limit), .d (.sl 3 (List.map e65 b_StandBook.Trials)), .d (.sl 4 (List.map e92 b_truths)), .d (I b_lead.weight), .d (I b_lead.along), .d (I b_lead.high), .map 0]), (11, .agg [.d (I weight), .d (I (wr (-b_StandBook.Lean_)))])], [(1, .var 83 (catV (cv25 b_StandBook) [.d (.sl 4 (List.map e92 b_truths)), .d (I b_lead.weight), .d (I b_lead.along), .d (I b_lead.high), .map 0])), (0, .mp (List.map m94_34 m0))], 2, Fr.emp, [], 1⟩ (by kernel_rfl) ?_
  obtain ⟨⟨r0_5, m0_2⟩, hx_2, h⟩ := bsome h
  refine RW.one fokW (r_callS (zr := []) [0] trivial rfl (k73a b_StandBook b_truths b_lead (Stand_child.mk weight (wr (-b_StandBook.Lean_))) m0 _ hx_2) ⟨rfl, trivial⟩ rfl rfl ⟨.refl _, .refl _, trivial⟩ rfl rfl rfl (r_end ?_))
  refine RW.au fokW 3 [] ⟨[(1, .d (I weight)), (2, .ptr 1 0), (15, .d (.bool (decide (0 ≤ r0_5.Top))))], [(0, .mp (List.map m94_34 m0_2)), (1, .var 83 (catV (cv25 b_StandBook) [.d (.sl 4 (List.map e92 b_truths)), .d (I b_lead.weight), .d (I b_lead.along), .d (I b_lead.high), .map 0]))], 2, Fr.emp, [], 1⟩ (by kernel_rfl) ?_
  obtain ⟨c_3, hx_3, h⟩ := bsome h
  refine RW.cut fokW 10 (match c_3 with | (v, m) => ⟨[(25, .d (.bool v))], [(0, .mp (List.map m94_34 m))], 1, Fr.emp, [], 1⟩) ?_ ?_
  · refine r_split 15 rfl (fun hb_5 => ?_) (fun hb_5 => ?_)
    · have h := ifT hb_5 hx_3
      refine RunC.auX 6 ⟨[(15, .d (.bool true)), (16, .agg [.d (I b_StandBook.Kind), .d (I b_StandBook.Front), .d (I b_StandBook.Back), .d (I b_StandBook.Radius), .d (.sl 4 (List.map e70 b_StandBook.Parts)), .d (I b_StandBook.Along), .d (I b_StandBook.High), .d (I b_StandBook.Lean_), .d (I b_StandBook.Limit), .d (.sl 3 (List.map e65 b_StandBook.Trials)), .d (.sl 4 (List.map e92 b_truths)), .d (I b_lead.weight), .d (I b_lead.along), .d (I b_lead.high), .map 0]), (21, .agg [.d (I weight), .d (I b_StandBook.Lean_)])], [(0, .mp (List.map m94_34 m0_2)), (1, .var 83 (catV (cv25 b_StandBook) [.d (.sl 4 (List.map e92 b_truths)), .d (I b_lead.weight), .d (I b_lead.along), .d (I b_lead.high), .map 0]))], 2, Fr.emp, [], 1⟩ (by kernel_rfl) ?_
      obtain ⟨⟨r0_5_1, m0_2_1⟩, hx_4, h⟩ := bsome h
      refine r_callS (zr := []) [0] rfl rfl (k73a b_StandBook b_truths b_lead (Stand_child.mk weight b_StandBook.Lean_) m0_2 _ hx_4) ⟨rfl, trivial⟩ rfl rfl ⟨.refl _, .refl _, trivial⟩ rfl rfl rfl ?_
      refine RunC.auX 3 ⟨[(25, .d (.bool (decide (0 ≤ r0_5_1.Top))))], [(0, .mp (List.map m94_34 m0_2_1)), (1, .var 83 (catV (cv25 b_StandBook) [.d (.sl 4 (List.map e92 b_truths)), .d (I b_lead.weight), .d (I b_lead.along), .d (I b_lead.high), .map 0]))], 2, Fr.emp, [], 1⟩ (by kernel_rfl) ?_
      obtain rfl := Option.some.inj h
      refine RunC.finJ (Can.kp (by kernel_rfl))
    · have h := ifF hb_5 hx_3
      refine RunC.auX 10 ⟨[(25, .d (.bool false))], [(0, .mp (List.map m94_34 m0_2)), (1, .var 83 (catV (cv25 b_StandBook) [.d (.sl 4 (List.map e92 b_truths)), .d (I b_lead.weight), .d (I b_lead.along), .d (I b_lead.high), .map 0]))], 2, Fr.emp, [], 1⟩ (by kernel_rfl) ?_
      obtain rfl := Option.some.inj h
      refine RunC.finJ (Can.kp (by kernel_rfl))
  · obtain ⟨v, m⟩ := c_3
    refine RW.au fokW 1 [] ⟨[(4, .d (.bool v))], [(0, .mp (List.map m94_34 m))], 1, Fr.emp, [], 1⟩ (by kernel_rfl) ?_
    refine RW.nil ?_
    refine hQ_1 _ ?_
    obtain rfl := Option.some.inj h
    exact AW.ret (hR_0 _ (retX (.cons (.tmp rfl) .nil) (.refl _) rfl (by kernel_rfl) (by kernel_rfl)))
def g27_10 (r0_StandBook6 : StandBook) (r0_truths6 : (List (Nat → Int))) (r0_lead6 : Stand_load) : Int → (List (Stand_child × StandRatio)) → Option (Ctl (List (Stand_child × StandRatio)) (Int × Int)) := fun v m => (g76a r0_StandBook6 r0_truths6 r0_lead6 (wr (v + 1)) m).bind fun (r0, m0_1) => bif (!r0) then (some (.brk ((wr (v + 1)), 0))) else (some (.next m0_1))
def g27 (x : StandBook) : Option (Int × Int) := (g67 x true).bind fun r_18 => match r_18 with | .next (r0_StandBook5, r0_truths5, r0_lead5, r1_2) => (must (decide (r1_2 ≠ 0))).bind fun _ => some (0, r1_2) | .brk (r0_StandBook6, r0_truths6, r0_lead6, r1_3, m4_1) => bif (decide (r1_3 ≠ 0)) then (some (0, r1_3)) else ((must (decide (x.Limit ≤ 9223372036854775807))).bind fun _ => bindC (forC (g27_10 r0_StandBook6 r0_truths6 r0_lead6) (((x.Limit : Int) - 0).toNat) 0 m4_1) fun m => some (0, 4))
theorem k27 (x : StandBook) (r : Int × Int) (h : g27 x = some r) : SCall Tryd.prog Gs 27 [.agg [.d (I x.Kind), .d (I x.Front), .d (I x.Back), .d (I x.Radius), .d (.sl 4 (List.map e70 x.Parts)), .d (I x.Along), .d (I x.High), .d (I x.Lean_), .d (I x.Limit), .d (.sl 3 (List.map e65 x.Trials))]] [] 0 Fr.emp (match r with | (r0_4, r1_5) => .tup [.d (I r0_4), .d (I r1_5)]) [] 0 Fr.emp := by
  unfold g27 at h
  refine SCall.mkK Tryd.func27 c27 rfl rfl (by kernel_rfl) (fun Q_0 hR_0 hN_0 => ?_)
  refine AW.sa fokW [] ⟨[(1, .ptr 0 0)], [(0, .var 25 (cv25 x))], 1, Fr.emp, [], 0⟩ (by kernel_rfl) ?_
  refine AW.srwK (fun Q_1 hQ_1 => ?_)
  refine RW.au fokW 1 [] ⟨[(1, .ptr 0 0), (8, .agg [.d (I x.Kind), .d (I x.Front), .d (I x.Back), .d (I x.Radius), .d (.sl 4 (List.map e70 x.Parts)), .d (I x.Along), .d (I x.High), .d (I x.Lean_), .d (I x.Limit), .d (.sl 3 (List.map e65 x.Trials))])], [(0, .var 25 (cv25 x))], 1, Fr.emp, [], 0⟩ (by kernel_rfl) ?_
  obtain ⟨r_18, hx_2, h⟩ := bsome h
  rcases r_18 with (⟨r0_StandBook5, r0_truths5, r0_lead5, r1_2⟩ | (⟨r0_StandBook6, r0_truths6, r0_lead6, r1_3, m4_1⟩))
  · refine RW.one fokW (r_callS (zr := []) [] trivial rfl (k67 x true _ hx_2) trivial rfl rfl ⟨.refl _, .refl _, trivial⟩ rfl rfl rfl (r_end ?_))
    obtain ⟨_, hv_3, h⟩ := bsome h
    have hf_4 := must_ok hv_3
    refine RW.au fokW 6 [] ⟨[(1, .ptr 0 0), (4, .ptr 1 0), (5, .d (I r1_2))], [(1, .var 83 (catV (cv25 r0_StandBook5) [.d (.sl 4 (List.map e92 r0_truths5)), .d (I r0_lead5.weight), .d (I r0_lead5.along), .d (I r0_lead5.high), .d (.nilMap)])), (0, .var 25 (cv25 x))], 2, Fr.emp, [], 0⟩ (by kernel_rfl) ?_
    refine RW.nil ?_
    refine hQ_1 _ ?_
    refine AW.seqK (fun K_5 hK_5 => ?_)
    refine AW.sa fokW [] ⟨[(1, .ptr 0 0), (4, .ptr 1 0), (5, .d (I r1_2)), (13, .d (.bool (decide (r1_2 ≠ 0))))], [(1, .var 83 (catV (cv25 r0_StandBook5) [.d (.sl 4 (List.map e92 r0_truths5)), .d (I r0_lead5.weight), .d (I r0_lead5.along), .d (I r0_lead5.high), .d (.nilMap)])), (0, .var 25 (cv25 x))], 2, Fr.emp, [], 0⟩ (by kernel_rfl) ?_
    refine AW.cond rfl (fun hb_6 => ?_) (fun hb_6 => False.elim (by rw [hf_4] at hb_6; cases hb_6))
    refine AW.sa fokW [] ⟨[(2, .d (I 0)), (3, .d (I r1_2))], [], 2, Fr.emp, [], 0⟩ (by kernel_rfl) ?_
    obtain rfl := Option.some.inj h
    exact AW.ret (hR_0 _ (retX (.cons (.tmp rfl) (.cons (.tmp rfl) .nil)) (.refl _) rfl (by kernel_rfl) (by kernel_rfl)))
  · refine RW.one fokW (r_callS (zr := []) [] trivial rfl (k67 x true _ hx_2) trivial rfl rfl ⟨.refl _, .refl _, trivial⟩ rfl rfl rfl (r_end ?_))
    refine RW.au fokW 6 [] ⟨[(1, .ptr 0 0), (4, .ptr 6 0), (5, .d (I r1_3))], [(6, .var 83 (catV (cv25 r0_StandBook6) [.d (.sl 4 (List.map e92 r0_truths6)), .d (I r0_lead6.weight), .d (I r0_lead6.along), .d (I r0_lead6.high), .map 5])), (5, .mp (List.map m94_34 m4_1)), (0, .var 25 (cv25 x))], 7, Fr.emp, [], 0⟩ (by kernel_rfl) ?_
    refine RW.nil ?_
    refine hQ_1 _ ?_
    refine AW.seqK (fun K_7 hK_7 => ?_)
    refine AW.sa fokW [] ⟨[(1, .ptr 0 0), (4, .ptr 6 0), (5, .d (I r1_3)), (13, .d (.bool (decide (r1_3 ≠ 0))))], [(6, .var 83 (catV (cv25 r0_StandBook6) [.d (.sl 4 (List.map e92 r0_truths6)), .d (I r0_lead6.weight), .d (I r0_lead6.along), .d (I r0_lead6.high), .map 5])), (5, .mp (List.map m94_34 m4_1)), (0, .var 25 (cv25 x))], 7, Fr.emp, [], 0⟩ (by kernel_rfl) ?_
    refine AW.cond rfl (fun hb_8 => ?_) (fun hb_8 => ?_)
    · have h := ifT hb_8 h
      refine AW.sa fokW [] ⟨[(2, .d (I 0)), (3, .d (I r1_3))], [], 7, Fr.emp, [], 0⟩ (by kernel_rfl) ?_
      obtain rfl := Option.some.inj h
      exact AW.ret (hR_0 _ (retX (.cons (.tmp rfl) (.cons (.tmp rfl) .nil)) (.refl _) rfl (by kernel_rfl) (by kernel_rfl)))
    · have h := ifF hb_8 h
      refine AW.skip ?_
      refine hK_7 _ ?_
      refine AW.seqK (fun K_9 hK_9 => ?_)
      refine AW.sa fokW [] ⟨[(4, .ptr 6 0), (16, .d (I x.Limit)), (17, .d (I 0))], [(6, .var 83 (catV (cv25 r0_StandBook6) [.d (.sl 4 (List.map e92 r0_truths6)), .d (I r0_lead6.weight), .d (I r0_lead6.along), .d (I r0_lead6.high), .map 5])), (5, .mp (List.map m94_34 m4_1))], 7, Fr.emp, [], 0⟩ (by kernel_rfl) ?_
      refine AW.block ?_
      obtain ⟨_, hN_10, h⟩ := bsome h
      have hN_10 := of_decide_eq_true (must_ok hN_10)
      obtain ⟨out_10, hx_10, hk_10⟩ := bsomeC h
      refine AW.lpCK (fun (v : Int) (m : List (Stand_child × StandRatio)) => ⟨[(4, .ptr 6 0), (16, .d (I x.Limit)), (17, .d (I v))], [(6, .var 83 (catV (cv25 r0_StandBook6) [.d (.sl 4 (List.map e92 r0_truths6)), .d (I r0_lead6.weight), .d (I r0_lead6.along), .d (I r0_lead6.high), .map 5])), (5, .mp (List.map m94_34 m))], 7, Fr.emp, [], 0⟩) (g27_10 r0_StandBook6 r0_truths6 r0_lead6) (x.Limit) hx_10 (Can.kp (by kernel_rfl)) (fun v m hi_10 hl_10 c_10 h hb_10 K_10 hK_10 => ?_) (fun v m hi_10 hl_10 hout => ?_)
      · unfold g27_10 at h
        refine AW.sa fokW [] ⟨[(4, .ptr 6 0), (16, .d (I x.Limit)), (17, .d (I v)), (18, .d (.bool (decide (v < x.Limit))))], [(6, .var 83 (catV (cv25 r0_StandBook6) [.d (.sl 4 (List.map e92 r0_truths6)), .d (I r0_lead6.weight), .d (I r0_lead6.along), .d (I r0_lead6.high), .map 5])), (5, .mp (List.map m94_34 m))], 7, Fr.emp, [], 0⟩ (by kernel_rfl) ?_
        refine AW.seqK (fun K_11 hK_11 => ?_)
        refine AW.cond rfl (fun hb_12 => ?_) (fun hb_12 => False.elim (by have := of_decide_eq_false hb_12; omega))
        refine AW.skip ?_
        refine hK_11 _ ?_
        refine AW.seqK (fun K_13 hK_13 => ?_)
        refine AW.block ?_
        refine AW.sa fokW [] ⟨[(4, .ptr 6 0), (6, .d (I v)), (16, .d (I x.Limit)), (17, .d (I v))], [(6, .var 83 (catV (cv25 r0_StandBook6) [.d (.sl 4 (List.map e92 r0_truths6)), .d (I r0_lead6.weight), .d (I r0_lead6.along), .d (I r0_lead6.high), .map 5])), (5, .mp (List.map m94_34 m))], 7, Fr.emp, [], 0⟩ (by kernel_rfl) ?_
        refine AW.srwK (fun Q_14 hQ_14 => ?_)
        refine RW.au fokW 3 [] ⟨[(4, .ptr 6 0), (6, .d (I v)), (16, .d (I x.Limit)), (17, .d (I v)), (20, .agg [.d (I r0_StandBook6.Kind), .d (I r0_StandBook6.Front), .d (I r0_StandBook6.Back), .d (I r0_StandBook6.Radius), .d (.sl 4 (List.map e70 r0_StandBook6.Parts)), .d (I r0_StandBook6.Along), .d (I r0_StandBook6.High), .d (I r0_StandBook6.Lean_), .d (I r0_StandBook6.Limit), .d (.sl 3 (List.map e65 r0_StandBook6.Trials)), .d (.sl 4 (List.map e92 r0_truths6)), .d (I r0_lead6.weight), .d (I r0_lead6.along), .d (I r0_lead6.high), .map 5]), (22, .d (I (wr (v + 1))))], [(6, .var 83 (catV (cv25 r0_StandBook6) [.d (.sl 4 (List.map e92 r0_truths6)), .d (I r0_lead6.weight), .d (I r0_lead6.along), .d (I r0_lead6.high), .map 5])), (5, .mp (List.map m94_34 m))], 7, Fr.emp, [], 0⟩ (by kernel_rfl) ?_
        obtain ⟨⟨r0, m0_1⟩, hx_15, h⟩ := bsome h
        refine RW.one fokW (r_callS (zr := []) [5] trivial rfl (k76a r0_StandBook6 r0_truths6 r0_lead6 (wr (v + 1)) m _ hx_15) ⟨rfl, trivial⟩ rfl rfl ⟨.refl _, .refl _, trivial⟩ rfl rfl rfl (r_end ?_))
        refine RW.au fokW 1 [] ⟨[(4, .ptr 6 0), (6, .d (I v)), (16, .d (I x.Limit)), (17, .d (I v)), (24, .d (.bool (!r0)))], [(5, .mp (List.map m94_34 m0_1)), (6, .var 83 (catV (cv25 r0_StandBook6) [.d (.sl 4 (List.map e92 r0_truths6)), .d (I r0_lead6.weight), .d (I r0_lead6.along), .d (I r0_lead6.high), .map 5]))], 7, Fr.emp, [], 0⟩ (by kernel_rfl) ?_
        refine RW.nil ?_
        refine hQ_14 _ ?_
        refine AW.cond rfl (fun hb_16 => ?_) (fun hb_16 => ?_)
        · have h := ifT hb_16 h
          refine AW.sa fokW [] ⟨[(2, .d (I (wr (v + 1)))), (3, .d (I 0))], [], 7, Fr.emp, [], 0⟩ (by kernel_rfl) ?_
          obtain rfl := Option.some.inj h
          have e_1 := hb_10 _ rfl
          subst e_1
          obtain rfl := Aft.bk hk_10
          exact AW.ret (hR_0 _ (retX (.cons (.tmp rfl) (.cons (.tmp rfl) .nil)) (.refl _) rfl (by kernel_rfl) (by kernel_rfl)))
        · have h := ifF hb_16 h
          refine AW.skip ?_
          refine hK_13 _ ?_
          refine AW.ra fokW [] ⟨[(4, .ptr 6 0), (16, .d (I x.Limit)), (17, .d (I (wr (v + 1))))], [(5, .mp (List.map m94_34 m0_1)), (6, .var 83 (catV (cv25 r0_StandBook6) [.d (.sl 4 (List.map e92 r0_truths6)), .d (I r0_lead6.weight), .d (I r0_lead6.along), .d (I r0_lead6.high), .map 5]))], 7, Fr.emp, [], 0⟩ (by kernel_rfl) ?_
          obtain rfl := Option.some.inj h
          have ew : wr (v + 1) = v + 1 := inext (N := x.Limit) (by omega) (by omega) (by omega)
          rw [ew]
          exact hK_10 _ _ rfl (Can.kp (by kernel_rfl))
      · subst hout
        have h := Aft.nx hk_10
        refine AW.sa fokW [] ⟨[(4, .ptr 6 0), (16, .d (I x.Limit)), (17, .d (I v)), (18, .d (.bool (decide (v < x.Limit))))], [(6, .var 83 (catV (cv25 r0_StandBook6) [.d (.sl 4 (List.map e92 r0_truths6)), .d (I r0_lead6.weight), .d (I r0_lead6.along), .d (I r0_lead6.high), .map 5])), (5, .mp (List.map m94_34 m))], 7, Fr.emp, [], 0⟩ (by kernel_rfl) ?_
        refine AW.seqK (fun K_17 hK_17 => ?_)
        refine AW.cond rfl (fun hb_18 => False.elim (by have := of_decide_eq_true hb_18; omega)) (fun hb_18 => ?_)
        refine AW.exit ?_
        refine hK_9 _ ?_
        refine AW.sa fokW [] ⟨[(2, .d (I 0)), (3, .d (I 4))], [], 7, Fr.emp, [], 0⟩ (by kernel_rfl) ?_
        obtain rfl := Option.some.inj h
        exact AW.ret (hR_0 _ (retX (.cons (.tmp rfl) (.cons (.tmp rfl) .nil)) (.refl _) rfl (by kernel_rfl) (by kernel_rfl)))
def g29_16 (weight : Int) (r0_StandBook6 : StandBook) (r0_truths6 : (List (Nat → Int))) (r0_lead6 : Stand_load) : Int → (Int × (List (Stand_child × StandRatio))) → Option (Ctl (Int × (List (Stand_child × StandRatio))) (Int × (List (Stand_child × StandRatio)))) := fun v1 (Low2, m3) => (g73a r0_StandBook6 r0_truths6 r0_lead6 (Stand_child.mk weight (wr (-v1))) m3).bind fun (r0_5_1, m0_2_1) => bif (decide (r0_5_1.Top < 0)) then (some (.brk (Low2, m0_2_1))) else (some (.next ((wr (-v1)), m0_2_1)))
def g29_28 (weight : Int) (r0_StandBook6 : StandBook) (r0_truths6 : (List (Nat → Int))) (r0_lead6 : Stand_load) : Int → (Int × (List (Stand_child × StandRatio))) → Option (Ctl (Int × (List (Stand_child × StandRatio))) (Int)) := fun v3 (High2, m5) => (g73a r0_StandBook6 r0_truths6 r0_lead6 (Stand_child.mk weight v3) m5).bind fun (r0_5_2, m0_2_2) => bif (decide (r0_5_2.Top < 0)) then (some (.brk High2)) else (some (.next (v3, m0_2_2)))
def g29 (x : StandBook) (weight : Int) : Option (Span × Int) := (g68 x weight).bind fun r0_1 => (g67 x r0_1).bind fun r_37 => match r_37 with | .next (r0_StandBook5, r0_truths5, r0_lead5, r1_2) => (must (decide (r1_2 ≠ 0))).bind fun _ => some ((Span.mk 0 0), r1_2) | .brk (r0_StandBook6, r0_truths6, r0_lead6, r1_3, m4_1) => bif (decide (r1_3 ≠ 0)) then (some ((Span.mk 0 0), r1_3)) else ((g73a r0_StandBook6 r0_truths6 r0_lead6 (Stand_child.mk weight 0) m4_1).bind fun (r0_5, m0_2) => bif (decide (r0_5.Top < 0)) then (some ((Span.mk 0 0), 4)) else (((bindC (forC (g29_16 weight r0_StandBook6 r0_truths6 r0_lead6) ((((wr (x.Lean_ + 1)) : Int) - 0).toNat) 0 (0, m0_2)) fun (Low2, m3) => some (Low2, m3)).bind fun (Low1, m1) => some (Low1, m1)).bind fun (Low, m) => ((bindC (forC (g29_28 weight r0_StandBook6 r0_truths6 r0_lead6) ((((wr (x.Lean_ + 1)) : Int) - 0).toNat) 0 (0, m)) fun (High2, m5) => some High2).bind fun High1 => some High1).bind fun High => some ((Span.mk Low High), 0)))
theorem k29 (x : StandBook) (weight : Int) (r : Span × Int) (h : g29 x weight = some r) : SCall Tryd.prog Gs 29 [.agg [.d (I x.Kind), .d (I x.Front), .d (I x.Back), .d (I x.Radius), .d (.sl 4 (List.map e70 x.Parts)), .d (I x.Along), .d (I x.High), .d (I x.Lean_), .d (I x.Limit), .d (.sl 3 (List.map e65 x.Trials))], .d (I weight)] [] 0 Fr.emp (match r with | (r0_4, r1_5) => .tup [.agg [.d (I r0_4.Low), .d (I r0_4.High)], .d (I r1_5)]) [] 0 Fr.emp := by
  unfold g29 at h
  refine SCall.mkK Tryd.func29 c29 rfl rfl (by kernel_rfl) (fun Q_0 hR_0 hN_0 => ?_)
  refine AW.sa fokW [] ⟨[(1, .d (I weight)), (2, .ptr 0 0), (4, .ptr 1 0)], [(1, .var 42 [.d (I 0), .d (I 0)]), (0, .var 25 (cv25 x))], 2, Fr.emp, [], 0⟩ (by kernel_rfl) ?_
  refine AW.sdrwK fokW (fun Q_1 hQ_1 => ?_)
  refine RunC.auX 3 ⟨[(1, .d (I weight)), (2, .ptr 0 0), (4, .ptr 1 0), (12, .agg [.d (I x.Kind), .d (I x.Front), .d (I x.Back), .d (I x.Radius), .d (.sl 4 (List.map e70 x.Parts)), .d (I x.Along), .d (I x.High), .d (I x.Lean_), .d (I x.Limit), .d (.sl 3 (List.map e65 x.Trials))]), (13, .agg [.d (I x.Kind), .d (I x.Front), .d (I x.Back), .d (I x.Radius), .d (.sl 4 (List.map e70 x.Parts)), .d (I x.Along), .d (I x.High), .d (I x.Lean_), .d (I x.Limit), .d (.sl 3 (List.map e65 x.Trials))]), (14, .d (I weight))], [(1, .var 42 [.d (I 0), .d (I 0)]), (0, .var 25 (cv25 x))], 2, Fr.emp, [], 0⟩ (by kernel_rfl) ?_
  obtain ⟨r0_1, hx_2, h⟩ := bsome h
  refine r_call trivial rfl (k68 x weight _ hx_2) rfl rfl ?_
  obtain ⟨r_37, hx_3, h⟩ := bsome h
  rcases r_37 with (⟨r0_StandBook5, r0_truths5, r0_lead5, r1_2⟩ | (⟨r0_StandBook6, r0_truths6, r0_lead6, r1_3, m4_1⟩))
  · refine r_callS (zr := []) [] trivial rfl (k67 x r0_1 _ hx_3) trivial rfl rfl ⟨.refl _, .refl _, trivial⟩ rfl rfl rfl ?_
    obtain ⟨_, hv_4, h⟩ := bsome h
    have hf_5 := must_ok hv_4
    refine RunC.auX 6 ⟨[(1, .d (I weight)), (2, .ptr 0 0), (4, .ptr 1 0), (6, .ptr 2 0), (7, .d (I r1_2))], [(2, .var 83 (catV (cv25 r0_StandBook5) [.d (.sl 4 (List.map e92 r0_truths5)), .d (I r0_lead5.weight), .d (I r0_lead5.along), .d (I r0_lead5.high), .d (.nilMap)])), (1, .var 42 [.d (I 0), .d (I 0)]), (0, .var 25 (cv25 x))], 3, Fr.emp, [], 0⟩ (by kernel_rfl) ?_
    refine RunC.fin ⟨[(1, .d (I weight)), (2, .ptr 0 0), (4, .ptr 1 0), (6, .ptr 2 0), (7, .d (I r1_2))], [(2, .var 83 (catV (cv25 r0_StandBook5) [.d (.sl 4 (List.map e92 r0_truths5)), .d (I r0_lead5.weight), .d (I r0_lead5.along), .d (I r0_lead5.high), .d (.nilMap)])), (1, .var 42 [.d (I 0), .d (I 0)]), (0, .var 25 (cv25 x))], 3, Fr.emp, [], 0⟩ (by kernel_rfl) (by kernel_rfl) ?_
    refine hQ_1 _ ?_
    refine AW.seqK (fun K_6 hK_6 => ?_)
    refine AW.sa fokW [] ⟨[(1, .d (I weight)), (2, .ptr 0 0), (4, .ptr 1 0), (6, .ptr 2 0), (7, .d (I r1_2)), (20, .d (.bool (decide (r1_2 ≠ 0))))], [(2, .var 83 (catV (cv25 r0_StandBook5) [.d (.sl 4 (List.map e92 r0_truths5)), .d (I r0_lead5.weight), .d (I r0_lead5.along), .d (I r0_lead5.high), .d (.nilMap)])), (1, .var 42 [.d (I 0), .d (I 0)]), (0, .var 25 (cv25 x))], 3, Fr.emp, [], 0⟩ (by kernel_rfl) ?_
    refine AW.cond rfl (fun hb_7 => ?_) (fun hb_7 => False.elim (by rw [hf_5] at hb_7; cases hb_7))
    refine AW.sa fokW [] ⟨[(4, .ptr 1 0), (5, .d (I r1_2))], [(1, .var 42 [.d (I 0), .d (I 0)])], 3, Fr.emp, [], 0⟩ (by kernel_rfl) ?_
    obtain rfl := Option.some.inj h
    exact AW.ret (hR_0 _ (retX (.cons (.agg rfl rfl (Nat.le_of_ble_eq_true rfl)) (.cons (.tmp rfl) .nil)) (.refl _) rfl (by kernel_rfl) (by kernel_rfl)))
  · refine r_callS (zr := []) [] trivial rfl (k67 x r0_1 _ hx_3) trivial rfl rfl ⟨.refl _, .refl _, trivial⟩ rfl rfl rfl ?_
    refine RunC.auX 6 ⟨[(1, .d (I weight)), (2, .ptr 0 0), (4, .ptr 1 0), (6, .ptr 7 0), (7, .d (I r1_3))], [(7, .var 83 (catV (cv25 r0_StandBook6) [.d (.sl 4 (List.map e92 r0_truths6)), .d (I r0_lead6.weight), .d (I r0_lead6.along), .d (I r0_lead6.high), .map 6])), (6, .mp (List.map m94_34 m4_1)), (1, .var 42 [.d (I 0), .d (I 0)]), (0, .var 25 (cv25 x))], 8, Fr.emp, [], 0⟩ (by kernel_rfl) ?_
    refine RunC.fin ⟨[(1, .d (I weight)), (2, .ptr 0 0), (4, .ptr 1 0), (6, .ptr 7 0), (7, .d (I r1_3))], [(7, .var 83 (catV (cv25 r0_StandBook6) [.d (.sl 4 (List.map e92 r0_truths6)), .d (I r0_lead6.weight), .d (I r0_lead6.along), .d (I r0_lead6.high), .map 6])), (6, .mp (List.map m94_34 m4_1)), (1, .var 42 [.d (I 0), .d (I 0)]), (0, .var 25 (cv25 x))], 8, Fr.emp, [], 0⟩ (by kernel_rfl) (by kernel_rfl) ?_
    refine hQ_1 _ ?_
    refine AW.seqK (fun K_8 hK_8 => ?_)
    refine AW.sa fokW [] ⟨[(1, .d (I weight)), (2, .ptr 0 0), (4, .ptr 1 0), (6, .ptr 7 0), (7, .d (I r1_3)), (20, .d (.bool (decide (r1_3 ≠ 0))))], [(7, .var 83 (catV (cv25 r0_StandBook6) [.d (.sl 4 (List.map e92 r0_truths6)), .d (I r0_lead6.weight), .d (I r0_lead6.along), .d (I r0_lead6.high), .map 6])), (6, .mp (List.map m94_34 m4_1)), (1, .var 42 [.d (I 0), .d (I 0)]), (0, .var 25 (cv25 x))], 8, Fr.emp, [], 0⟩ (by kernel_rfl) ?_
    refine AW.cond rfl (fun hb_9 => ?_) (fun hb_9 => ?_)
    · have h := ifT hb_9 h
      refine AW.sa fokW [] ⟨[(4, .ptr 1 0), (5, .d (I r1_3))], [(1, .var 42 [.d (I 0), .d (I 0)])], 8, Fr.emp, [], 0⟩ (by kernel_rfl) ?_
      obtain rfl := Option.some.inj h
      exact AW.ret (hR_0 _ (retX (.cons (.agg rfl rfl (Nat.le_of_ble_eq_true rfl)) (.cons (.tmp rfl) .nil)) (.refl _) rfl (by kernel_rfl) (by kernel_rfl)))
    · have h := ifF hb_9 h
      refine AW.skip ?_
      refine hK_8 _ ?_
      refine AW.seqK (fun K_10 hK_10 => ?_)
      refine AW.srwK (fun Q_11 hQ_11 => ?_)
      refine RW.au fokW 3 [] ⟨[(1, .d (I weight)), (2, .ptr 0 0), (4, .ptr 1 0), (6, .ptr 7 0), (23, .agg [.d (I r0_StandBook6.Kind), .d (I r0_StandBook6.Front), .d (I r0_StandBook6.Back), .d (I r0_StandBook6.Radius), .d (.sl 4 (List.map e70 r0_StandBook6.Parts)), .d (I r0_StandBook6.Along), .d (I r0_StandBook6.High), .d (I r0_StandBook6.Lean_), .d (I r0_StandBook6.Limit), .d (.sl 3 (List.map e65 r0_StandBook6.Trials)), .d (.sl 4 (List.map e92 r0_truths6)), .d (I r0_lead6.weight), .d (I r0_lead6.along), .d (I r0_lead6.high), .map 6]), (25, .agg [.d (I weight), .d (I 0)])], [(7, .var 83 (catV (cv25 r0_StandBook6) [.d (.sl 4 (List.map e92 r0_truths6)), .d (I r0_lead6.weight), .d (I r0_lead6.along), .d (I r0_lead6.high), .map 6])), (6, .mp (List.map m94_34 m4_1)), (1, .var 42 [.d (I 0), .d (I 0)]), (0, .var 25 (cv25 x))], 8, Fr.emp, [], 0⟩ (by kernel_rfl) ?_
      obtain ⟨⟨r0_5, m0_2⟩, hx_12, h⟩ := bsome h
      refine RW.one fokW (r_callS (zr := []) [6] trivial rfl (k73a r0_StandBook6 r0_truths6 r0_lead6 (Stand_child.mk weight 0) m4_1 _ hx_12) ⟨rfl, trivial⟩ rfl rfl ⟨.refl _, .refl _, trivial⟩ rfl rfl rfl (r_end ?_))
      refine RW.au fokW 2 [] ⟨[(1, .d (I weight)), (2, .ptr 0 0), (4, .ptr 1 0), (6, .ptr 7 0), (28, .d (.bool (decide (r0_5.Top < 0))))], [(6, .mp (List.map m94_34 m0_2)), (7, .var 83 (catV (cv25 r0_StandBook6) [.d (.sl 4 (List.map e92 r0_truths6)), .d (I r0_lead6.weight), .d (I r0_lead6.along), .d (I r0_lead6.high), .map 6])), (1, .var 42 [.d (I 0), .d (I 0)]), (0, .var 25 (cv25 x))], 8, Fr.emp, [], 0⟩ (by kernel_rfl) ?_
      refine RW.nil ?_
      refine hQ_11 _ ?_
      refine AW.cond rfl (fun hb_13 => ?_) (fun hb_13 => ?_)
      · have h := ifT hb_13 h
        refine AW.sa fokW [] ⟨[(4, .ptr 1 0), (5, .d (I 4))], [(1, .var 42 [.d (I 0), .d (I 0)])], 8, Fr.emp, [], 0⟩ (by kernel_rfl) ?_
        obtain rfl := Option.some.inj h
        exact AW.ret (hR_0 _ (retX (.cons (.agg rfl rfl (Nat.le_of_ble_eq_true rfl)) (.cons (.tmp rfl) .nil)) (.refl _) rfl (by kernel_rfl) (by kernel_rfl)))
      · have h := ifF hb_13 h
        refine AW.skip ?_
        refine hK_10 _ ?_
        refine AW.sa fokW [] ⟨[(1, .d (I weight)), (2, .ptr 0 0), (4, .ptr 1 0), (6, .ptr 7 0), (8, .ptr 8 0)], [(8, .var 42 [.d (I 0), .d (I 0)]), (6, .mp (List.map m94_34 m0_2)), (7, .var 83 (catV (cv25 r0_StandBook6) [.d (.sl 4 (List.map e92 r0_truths6)), .d (I r0_lead6.weight), .d (I r0_lead6.along), .d (I r0_lead6.high), .map 6])), (1, .var 42 [.d (I 0), .d (I 0)]), (0, .var 25 (cv25 x))], 9, Fr.emp, [], 0⟩ (by kernel_rfl) ?_
        obtain ⟨c_14, hx_14, h⟩ := bsome h
        refine AW.jnSK (fun (⟨Low, m⟩ : Int × (List (Stand_child × StandRatio))) => ⟨[(1, .d (I weight)), (2, .ptr 0 0), (4, .ptr 1 0), (6, .ptr 7 0), (8, .ptr 8 0)], [(6, .mp (List.map m94_34 m)), (8, .var 42 [.d (I Low), .d (I 0)]), (7, .var 83 (catV (cv25 r0_StandBook6) [.d (.sl 4 (List.map e92 r0_truths6)), .d (I r0_lead6.weight), .d (I r0_lead6.along), .d (I r0_lead6.high), .map 6])), (1, .var 42 [.d (I 0), .d (I 0)]), (0, .var 25 (cv25 x))], 9, Fr.emp, [], 0⟩) (c := c_14) (fun K_14 hK_14 => ?_) ?_
        · have h := hx_14
          refine AW.sa fokW [] ⟨[(1, .d (I weight)), (2, .ptr 0 0), (4, .ptr 1 0), (6, .ptr 7 0), (8, .ptr 8 0), (32, .d (I (wr (x.Lean_ + 1)))), (33, .d (I 0))], [(8, .var 42 [.d (I 0), .d (I 0)]), (6, .mp (List.map m94_34 m0_2)), (7, .var 83 (catV (cv25 r0_StandBook6) [.d (.sl 4 (List.map e92 r0_truths6)), .d (I r0_lead6.weight), .d (I r0_lead6.along), .d (I r0_lead6.high), .map 6])), (1, .var 42 [.d (I 0), .d (I 0)]), (0, .var 25 (cv25 x))], 9, Fr.emp, [], 0⟩ (by kernel_rfl) ?_
          obtain ⟨c_15, hx_15, h⟩ := bsome h
          refine AW.jqSK (fun (⟨Low1, m1⟩ : Int × (List (Stand_child × StandRatio))) => ⟨[(1, .d (I weight)), (2, .ptr 0 0), (4, .ptr 1 0), (6, .ptr 7 0), (8, .ptr 8 0)], [(6, .mp (List.map m94_34 m1)), (8, .var 42 [.d (I Low1), .d (I 0)]), (7, .var 83 (catV (cv25 r0_StandBook6) [.d (.sl 4 (List.map e92 r0_truths6)), .d (I r0_lead6.weight), .d (I r0_lead6.along), .d (I r0_lead6.high), .map 6])), (1, .var 42 [.d (I 0), .d (I 0)]), (0, .var 25 (cv25 x))], 9, Fr.emp, [], 0⟩) (c := c_15) (fun K_15 hK_15 => ?_) ?_
          · have h := hx_15
            refine AW.block ?_
            have hN_16 : (wr (x.Lean_ + 1)) ≤ 9223372036854775807 := (wr_range _).2
            obtain ⟨out_16, hx_16, hk_16⟩ := bsomeC h
            refine AW.lpCK (fun (v1 : Int) (⟨Low2, m3⟩ : Int × (List (Stand_child × StandRatio))) => ⟨[(1, .d (I weight)), (2, .ptr 0 0), (4, .ptr 1 0), (6, .ptr 7 0), (8, .ptr 8 0), (32, .d (I (wr (x.Lean_ + 1)))), (33, .d (I v1))], [(8, .var 42 [.d (I Low2), .d (I 0)]), (6, .mp (List.map m94_34 m3)), (7, .var 83 (catV (cv25 r0_StandBook6) [.d (.sl 4 (List.map e92 r0_truths6)), .d (I r0_lead6.weight), .d (I r0_lead6.along), .d (I r0_lead6.high), .map 6])), (1, .var 42 [.d (I 0), .d (I 0)]), (0, .var 25 (cv25 x))], 9, Fr.emp, [], 0⟩) (g29_16 weight r0_StandBook6 r0_truths6 r0_lead6) ((wr (x.Lean_ + 1))) hx_16 (Can.kp (by kernel_rfl)) (fun v1 s_16 hi_16 hl_16 c_16 h hb_16 K_16 hK_16 => ?_) (fun v1 s_16 hi_16 hl_16 hout => ?_)
            · obtain ⟨Low2, m3⟩ := s_16
              unfold g29_16 at h
              refine AW.sa fokW [] ⟨[(1, .d (I weight)), (2, .ptr 0 0), (4, .ptr 1 0), (6, .ptr 7 0), (8, .ptr 8 0), (32, .d (I (wr (x.Lean_ + 1)))), (33, .d (I v1)), (34, .d (.bool (decide (v1 < (wr (x.Lean_ + 1))))))], [(8, .var 42 [.d (I Low2), .d (I 0)]), (6, .mp (List.map m94_34 m3)), (7, .var 83 (catV (cv25 r0_StandBook6) [.d (.sl 4 (List.map e92 r0_truths6)), .d (I r0_lead6.weight), .d (I r0_lead6.along), .d (I r0_lead6.high), .map 6])), (1, .var 42 [.d (I 0), .d (I 0)]), (0, .var 25 (cv25 x))], 9, Fr.emp, [], 0⟩ (by kernel_rfl) ?_
              refine AW.seqK (fun K_17 hK_17 => ?_)
              refine AW.cond rfl (fun hb_18 => ?_) (fun hb_18 => False.elim (by have := of_decide_eq_false hb_18; omega))
              refine AW.skip ?_
              refine hK_17 _ ?_
              refine AW.seqK (fun K_19 hK_19 => ?_)
              refine AW.block ?_
              refine AW.sa fokW [] ⟨[(1, .d (I weight)), (2, .ptr 0 0), (4, .ptr 1 0), (6, .ptr 7 0), (8, .ptr 8 0), (9, .d (I v1)), (32, .d (I (wr (x.Lean_ + 1)))), (33, .d (I v1))], [(8, .var 42 [.d (I Low2), .d (I 0)]), (6, .mp (List.map m94_34 m3)), (7, .var 83 (catV (cv25 r0_StandBook6) [.d (.sl 4 (List.map e92 r0_truths6)), .d (I r0_lead6.weight), .d (I r0_lead6.along), .d (I r0_lead6.high), .map 6])), (1, .var 42 [.d (I 0), .d (I 0)]), (0, .var 25 (cv25 x))], 9, Fr.emp, [], 0⟩ (by kernel_rfl) ?_
              refine AW.seqK (fun K_20 hK_20 => ?_)
              refine AW.srwK (fun Q_21 hQ_21 => ?_)
              refine RW.au fokW 5 [] ⟨[(1, .d (I weight)), (2, .ptr 0 0), (4, .ptr 1 0), (6, .ptr 7 0), (8, .ptr 8 0), (9, .d (I v1)), (32, .d (I (wr (x.Lean_ + 1)))), (33, .d (I v1)), (36, .agg [.d (I r0_StandBook6.Kind), .d (I r0_StandBook6.Front), .d (I r0_StandBook6.Back), .d (I r0_StandBook6.Radius), .d (.sl 4 (List.map e70 r0_StandBook6.Parts)), .d (I r0_StandBook6.Along), .d (I r0_StandBook6.High), .d (I r0_StandBook6.Lean_), .d (I r0_StandBook6.Limit), .d (.sl 3 (List.map e65 r0_StandBook6.Trials)), .d (.sl 4 (List.map e92 r0_truths6)), .d (I r0_lead6.weight), .d (I r0_lead6.along), .d (I r0_lead6.high), .map 6]), (40, .agg [.d (I weight), .d (I (wr (-v1)))])], [(8, .var 42 [.d (I Low2), .d (I 0)]), (6, .mp (List.map m94_34 m3)), (7, .var 83 (catV (cv25 r0_StandBook6) [.d (.sl 4 (List.map e92 r0_truths6)), .d (I r0_lead6.weight), .d (I r0_lead6.along), .d (I r0_lead6.high), .map 6])), (1, .var 42 [.d (I 0), .d (I 0)]), (0, .var 25 (cv25 x))], 9, Fr.emp, [], 0⟩ (by kernel_rfl) ?_
              obtain ⟨⟨r0_5_1, m0_2_1⟩, hx_22, h⟩ := bsome h
              refine RW.one fokW (r_callS (zr := []) [6] trivial rfl (k73a r0_StandBook6 r0_truths6 r0_lead6 (Stand_child.mk weight (wr (-v1))) m3 _ hx_22) ⟨rfl, trivial⟩ rfl rfl ⟨.refl _, .refl _, trivial⟩ rfl rfl rfl (r_end ?_))
              refine RW.au fokW 2 [] ⟨[(1, .d (I weight)), (2, .ptr 0 0), (4, .ptr 1 0), (6, .ptr 7 0), (8, .ptr 8 0), (9, .d (I v1)), (32, .d (I (wr (x.Lean_ + 1)))), (33, .d (I v1)), (43, .d (.bool (decide (r0_5_1.Top < 0))))], [(6, .mp (List.map m94_34 m0_2_1)), (8, .var 42 [.d (I Low2), .d (I 0)]), (7, .var 83 (catV (cv25 r0_StandBook6) [.d (.sl 4 (List.map e92 r0_truths6)), .d (I r0_lead6.weight), .d (I r0_lead6.along), .d (I r0_lead6.high), .map 6])), (1, .var 42 [.d (I 0), .d (I 0)]), (0, .var 25 (cv25 x))], 9, Fr.emp, [], 0⟩ (by kernel_rfl) ?_
              refine RW.nil ?_
              refine hQ_21 _ ?_
              refine AW.cond rfl (fun hb_23 => ?_) (fun hb_23 => ?_)
              · have h := ifT hb_23 h
                refine AW.exit ?_
                obtain rfl := Option.some.inj h
                have e_3 := hb_16 _ rfl
                subst e_3
                obtain rfl := Aft.bk hk_16
                exact hK_15 _ (Can.kp (by kernel_rfl))
              · have h := ifF hb_23 h
                refine AW.skip ?_
                refine hK_20 _ ?_
                refine AW.ra fokW [] ⟨[(1, .d (I weight)), (2, .ptr 0 0), (4, .ptr 1 0), (6, .ptr 7 0), (8, .ptr 8 0), (32, .d (I (wr (x.Lean_ + 1)))), (33, .d (I v1))], [(8, .var 42 [.d (I (wr (-v1))), .d (I 0)]), (6, .mp (List.map m94_34 m0_2_1)), (7, .var 83 (catV (cv25 r0_StandBook6) [.d (.sl 4 (List.map e92 r0_truths6)), .d (I r0_lead6.weight), .d (I r0_lead6.along), .d (I r0_lead6.high), .map 6])), (1, .var 42 [.d (I 0), .d (I 0)]), (0, .var 25 (cv25 x))], 9, Fr.emp, [], 0⟩ (by kernel_rfl) ?_
                refine hK_19 _ ?_
                refine AW.ra fokW [] ⟨[(1, .d (I weight)), (2, .ptr 0 0), (4, .ptr 1 0), (6, .ptr 7 0), (8, .ptr 8 0), (32, .d (I (wr (x.Lean_ + 1)))), (33, .d (I (wr (v1 + 1))))], [(8, .var 42 [.d (I (wr (-v1))), .d (I 0)]), (6, .mp (List.map m94_34 m0_2_1)), (7, .var 83 (catV (cv25 r0_StandBook6) [.d (.sl 4 (List.map e92 r0_truths6)), .d (I r0_lead6.weight), .d (I r0_lead6.along), .d (I r0_lead6.high), .map 6])), (1, .var 42 [.d (I 0), .d (I 0)]), (0, .var 25 (cv25 x))], 9, Fr.emp, [], 0⟩ (by kernel_rfl) ?_
                obtain rfl := Option.some.inj h
                have ew : wr (v1 + 1) = v1 + 1 := inext (N := (wr (x.Lean_ + 1))) (by omega) (by omega) (by omega)
                rw [ew]
                exact hK_16 _ _ rfl (Can.kp (by kernel_rfl))
            · obtain ⟨Low2, m3⟩ := s_16
              subst hout
              have h := Aft.nx hk_16
              refine AW.sa fokW [] ⟨[(1, .d (I weight)), (2, .ptr 0 0), (4, .ptr 1 0), (6, .ptr 7 0), (8, .ptr 8 0), (32, .d (I (wr (x.Lean_ + 1)))), (33, .d (I v1)), (34, .d (.bool (decide (v1 < (wr (x.Lean_ + 1))))))], [(8, .var 42 [.d (I Low2), .d (I 0)]), (6, .mp (List.map m94_34 m3)), (7, .var 83 (catV (cv25 r0_StandBook6) [.d (.sl 4 (List.map e92 r0_truths6)), .d (I r0_lead6.weight), .d (I r0_lead6.along), .d (I r0_lead6.high), .map 6])), (1, .var 42 [.d (I 0), .d (I 0)]), (0, .var 25 (cv25 x))], 9, Fr.emp, [], 0⟩ (by kernel_rfl) ?_
              refine AW.seqK (fun K_24 hK_24 => ?_)
              refine AW.cond rfl (fun hb_25 => False.elim (by have := of_decide_eq_true hb_25; omega)) (fun hb_25 => ?_)
              refine AW.exit ?_
              obtain rfl := Option.some.inj h
              exact hK_15 _ (Can.kp (by kernel_rfl))
          · obtain ⟨Low1, m1⟩ := c_15
            obtain rfl := Option.some.inj h
            exact hK_14 _ (Can.kp (by kernel_rfl))
        · obtain ⟨Low, m⟩ := c_14
          obtain ⟨High, hx_26, h⟩ := bsome h
          refine AW.jnSK (fun (High : Int) => ⟨[(4, .ptr 1 0), (8, .ptr 8 0)], [(8, .var 42 [.d (I Low), .d (I High)]), (1, .var 42 [.d (I 0), .d (I 0)])], 9, Fr.emp, [], 0⟩) (c := High) (fun K_26 hK_26 => ?_) ?_
          · have h := hx_26
            refine AW.sa fokW [] ⟨[(1, .d (I weight)), (4, .ptr 1 0), (6, .ptr 7 0), (8, .ptr 8 0), (50, .d (I (wr (x.Lean_ + 1)))), (51, .d (I 0))], [(6, .mp (List.map m94_34 m)), (8, .var 42 [.d (I Low), .d (I 0)]), (7, .var 83 (catV (cv25 r0_StandBook6) [.d (.sl 4 (List.map e92 r0_truths6)), .d (I r0_lead6.weight), .d (I r0_lead6.along), .d (I r0_lead6.high), .map 6])), (1, .var 42 [.d (I 0), .d (I 0)])], 9, Fr.emp, [], 0⟩ (by kernel_rfl) ?_
            obtain ⟨High1, hx_27, h⟩ := bsome h
            refine AW.jqSK (fun (High1 : Int) => ⟨[(4, .ptr 1 0), (8, .ptr 8 0)], [(8, .var 42 [.d (I Low), .d (I High1)]), (1, .var 42 [.d (I 0), .d (I 0)])], 9, Fr.emp, [], 0⟩) (c := High1) (fun K_27 hK_27 => ?_) ?_
            · have h := hx_27
              refine AW.block ?_
              have hN_28 : (wr (x.Lean_ + 1)) ≤ 9223372036854775807 := (wr_range _).2
              obtain ⟨out_28, hx_28, hk_28⟩ := bsomeC h
              refine AW.lpCK (fun (v3 : Int) (⟨High2, m5⟩ : Int × (List (Stand_child × StandRatio))) => ⟨[(1, .d (I weight)), (4, .ptr 1 0), (6, .ptr 7 0), (8, .ptr 8 0), (50, .d (I (wr (x.Lean_ + 1)))), (51, .d (I v3))], [(6, .mp (List.map m94_34 m5)), (8, .var 42 [.d (I Low), .d (I High2)]), (7, .var 83 (catV (cv25 r0_StandBook6) [.d (.sl 4 (List.map e92 r0_truths6)), .d (I r0_lead6.weight), .d (I r0_lead6.along), .d (I r0_lead6.high), .map 6])), (1, .var 42 [.d (I 0), .d (I 0)])], 9, Fr.emp, [], 0⟩) (g29_28 weight r0_StandBook6 r0_truths6 r0_lead6) ((wr (x.Lean_ + 1))) hx_28 (Can.kp (by kernel_rfl)) (fun v3 s_28 hi_28 hl_28 c_28 h hb_28 K_28 hK_28 => ?_) (fun v3 s_28 hi_28 hl_28 hout => ?_)
              · obtain ⟨High2, m5⟩ := s_28
                unfold g29_28 at h
                refine AW.sa fokW [] ⟨[(1, .d (I weight)), (4, .ptr 1 0), (6, .ptr 7 0), (8, .ptr 8 0), (50, .d (I (wr (x.Lean_ + 1)))), (51, .d (I v3)), (52, .d (.bool (decide (v3 < (wr (x.Lean_ + 1))))))], [(6, .mp (List.map m94_34 m5)), (8, .var 42 [.d (I Low), .d (I High2)]), (7, .var 83 (catV (cv25 r0_StandBook6) [.d (.sl 4 (List.map e92 r0_truths6)), .d (I r0_lead6.weight), .d (I r0_lead6.along), .d (I r0_lead6.high), .map 6])), (1, .var 42 [.d (I 0), .d (I 0)])], 9, Fr.emp, [], 0⟩ (by kernel_rfl) ?_
                refine AW.seqK (fun K_29 hK_29 => ?_)
                refine AW.cond rfl (fun hb_30 => ?_) (fun hb_30 => False.elim (by have := of_decide_eq_false hb_30; omega))
                refine AW.skip ?_
                refine hK_29 _ ?_
                refine AW.seqK (fun K_31 hK_31 => ?_)
                refine AW.block ?_
                refine AW.sa fokW [] ⟨[(1, .d (I weight)), (4, .ptr 1 0), (6, .ptr 7 0), (8, .ptr 8 0), (10, .d (I v3)), (50, .d (I (wr (x.Lean_ + 1)))), (51, .d (I v3))], [(6, .mp (List.map m94_34 m5)), (8, .var 42 [.d (I Low), .d (I High2)]), (7, .var 83 (catV (cv25 r0_StandBook6) [.d (.sl 4 (List.map e92 r0_truths6)), .d (I r0_lead6.weight), .d (I r0_lead6.along), .d (I r0_lead6.high), .map 6])), (1, .var 42 [.d (I 0), .d (I 0)])], 9, Fr.emp, [], 0⟩ (by kernel_rfl) ?_
                refine AW.seqK (fun K_32 hK_32 => ?_)
                refine AW.srwK (fun Q_33 hQ_33 => ?_)
                refine RW.au fokW 4 [] ⟨[(1, .d (I weight)), (4, .ptr 1 0), (6, .ptr 7 0), (8, .ptr 8 0), (10, .d (I v3)), (50, .d (I (wr (x.Lean_ + 1)))), (51, .d (I v3)), (54, .agg [.d (I r0_StandBook6.Kind), .d (I r0_StandBook6.Front), .d (I r0_StandBook6.Back), .d (I r0_StandBook6.Radius), .d (.sl 4 (List.map e70 r0_StandBook6.Parts)), .d (I r0_StandBook6.Along), .d (I r0_StandBook6.High), .d (I r0_StandBook6.Lean_), .d (I r0_StandBook6.Limit), .d (.sl 3 (List.map e65 r0_StandBook6.Trials)), .d (.sl 4 (List.map e92 r0_truths6)), .d (I r0_lead6.weight), .d (I r0_lead6.along), .d (I r0_lead6.high), .map 6]), (57, .agg [.d (I weight), .d (I v3)])], [(6, .mp (List.map m94_34 m5)), (8, .var 42 [.d (I Low), .d (I High2)]), (7, .var 83 (catV (cv25 r0_StandBook6) [.d (.sl 4 (List.map e92 r0_truths6)), .d (I r0_lead6.weight), .d (I r0_lead6.along), .d (I r0_lead6.high), .map 6])), (1, .var 42 [.d (I 0), .d (I 0)])], 9, Fr.emp, [], 0⟩ (by kernel_rfl) ?_
                obtain ⟨⟨r0_5_2, m0_2_2⟩, hx_34, h⟩ := bsome h
                refine RW.one fokW (r_callS (zr := []) [6] trivial rfl (k73a r0_StandBook6 r0_truths6 r0_lead6 (Stand_child.mk weight v3) m5 _ hx_34) ⟨rfl, trivial⟩ rfl rfl ⟨.refl _, .refl _, trivial⟩ rfl rfl rfl (r_end ?_))
                refine RW.au fokW 2 [] ⟨[(1, .d (I weight)), (4, .ptr 1 0), (6, .ptr 7 0), (8, .ptr 8 0), (10, .d (I v3)), (50, .d (I (wr (x.Lean_ + 1)))), (51, .d (I v3)), (60, .d (.bool (decide (r0_5_2.Top < 0))))], [(6, .mp (List.map m94_34 m0_2_2)), (8, .var 42 [.d (I Low), .d (I High2)]), (7, .var 83 (catV (cv25 r0_StandBook6) [.d (.sl 4 (List.map e92 r0_truths6)), .d (I r0_lead6.weight), .d (I r0_lead6.along), .d (I r0_lead6.high), .map 6])), (1, .var 42 [.d (I 0), .d (I 0)])], 9, Fr.emp, [], 0⟩ (by kernel_rfl) ?_
                refine RW.nil ?_
                refine hQ_33 _ ?_
                refine AW.cond rfl (fun hb_35 => ?_) (fun hb_35 => ?_)
                · have h := ifT hb_35 h
                  refine AW.exit ?_
                  obtain rfl := Option.some.inj h
                  have e_3 := hb_28 _ rfl
                  subst e_3
                  obtain rfl := Aft.bk hk_28
                  exact hK_27 _ (Can.kp (by kernel_rfl))
                · have h := ifF hb_35 h
                  refine AW.skip ?_
                  refine hK_32 _ ?_
                  refine AW.ra fokW [] ⟨[(1, .d (I weight)), (4, .ptr 1 0), (6, .ptr 7 0), (8, .ptr 8 0), (50, .d (I (wr (x.Lean_ + 1)))), (51, .d (I v3))], [(8, .var 42 [.d (I Low), .d (I v3)]), (6, .mp (List.map m94_34 m0_2_2)), (7, .var 83 (catV (cv25 r0_StandBook6) [.d (.sl 4 (List.map e92 r0_truths6)), .d (I r0_lead6.weight), .d (I r0_lead6.along), .d (I r0_lead6.high), .map 6])), (1, .var 42 [.d (I 0), .d (I 0)])], 9, Fr.emp, [], 0⟩ (by kernel_rfl) ?_
                  refine hK_31 _ ?_
                  refine AW.ra fokW [] ⟨[(1, .d (I weight)), (4, .ptr 1 0), (6, .ptr 7 0), (8, .ptr 8 0), (50, .d (I (wr (x.Lean_ + 1)))), (51, .d (I (wr (v3 + 1))))], [(8, .var 42 [.d (I Low), .d (I v3)]), (6, .mp (List.map m94_34 m0_2_2)), (7, .var 83 (catV (cv25 r0_StandBook6) [.d (.sl 4 (List.map e92 r0_truths6)), .d (I r0_lead6.weight), .d (I r0_lead6.along), .d (I r0_lead6.high), .map 6])), (1, .var 42 [.d (I 0), .d (I 0)])], 9, Fr.emp, [], 0⟩ (by kernel_rfl) ?_
                  obtain rfl := Option.some.inj h
                  have ew : wr (v3 + 1) = v3 + 1 := inext (N := (wr (x.Lean_ + 1))) (by omega) (by omega) (by omega)
                  rw [ew]
                  exact hK_28 _ _ rfl (Can.kp (by kernel_rfl))
              · obtain ⟨High2, m5⟩ := s_28
                subst hout
                have h := Aft.nx hk_28
                refine AW.sa fokW [] ⟨[(1, .d (I weight)), (4, .ptr 1 0), (6, .ptr 7 0), (8, .ptr 8 0), (50, .d (I (wr (x.Lean_ + 1)))), (51, .d (I v3)), (52, .d (.bool (decide (v3 < (wr (x.Lean_ + 1))))))], [(6, .mp (List.map m94_34 m5)), (8, .var 42 [.d (I Low), .d (I High2)]), (7, .var 83 (catV (cv25 r0_StandBook6) [.d (.sl 4 (List.map e92 r0_truths6)), .d (I r0_lead6.weight), .d (I r0_lead6.along), .d (I r0_lead6.high), .map 6])), (1, .var 42 [.d (I 0), .d (I 0)])], 9, Fr.emp, [], 0⟩ (by kernel_rfl) ?_
                refine AW.seqK (fun K_36 hK_36 => ?_)
                refine AW.cond rfl (fun hb_37 => False.elim (by have := of_decide_eq_true hb_37; omega)) (fun hb_37 => ?_)
                refine AW.exit ?_
                obtain rfl := Option.some.inj h
                exact hK_27 _ (Can.kp (by kernel_rfl))
            · obtain rfl := Option.some.inj h
              exact hK_26 _ (Can.kp (by kernel_rfl))
          · refine AW.sa fokW [] ⟨[(4, .ptr 1 0), (5, .d (I 0))], [(1, .var 42 [.d (I Low), .d (I High)])], 9, Fr.emp, [], 0⟩ (by kernel_rfl) ?_
            obtain rfl := Option.some.inj h
            exact AW.ret (hR_0 _ (retX (.cons (.agg rfl rfl (Nat.le_of_ble_eq_true rfl)) (.cons (.tmp rfl) .nil)) (.refl _) rfl (by kernel_rfl) (by kernel_rfl)))
def g80 (b_StandBook : StandBook) (b_truths : (List (Nat → Int))) (b_lead : Stand_load) (lead : Stand_load) (wider : Int) : Option (StandBook × (List (Nat → Int)) × Stand_load × (List (Stand_child × StandRatio))) := some ((StandBook.mk b_StandBook.Kind (wr (b_StandBook.Front + wider)) (wr (b_StandBook.Back + wider)) b_StandBook.Radius b_StandBook.Parts b_StandBook.Along b_StandBook.High b_StandBook.Lean_ b_StandBook.Limit b_StandBook.Trials), b_truths, lead, [])
theorem k80 (b_StandBook : StandBook) (b_truths : (List (Nat → Int))) (b_lead : Stand_load) (lead : Stand_load) (wider : Int) (r : StandBook × (List (Nat → Int)) × Stand_load × (List (Stand_child × StandRatio))) (h : g80 b_StandBook b_truths b_lead lead wider = some r) : SCall Tryd.prog Gs 80 [.agg [.d (I b_StandBook.Kind), .d (I b_StandBook.Front), .d (I b_StandBook.Back), .d (I b_StandBook.Radius), .d (.sl 4 (List.map e70 b_StandBook.Parts)), .d (I b_StandBook.Along), .d (I b_StandBook.High), .d (I b_StandBook.Lean_), .d (I b_StandBook.Limit), .d (.sl 3 (List.map e65 b_StandBook.Trials)), .d (.sl 4 (List.map e92 b_truths)), .d (I b_lead.weight), .d (I b_lead.along), .d (I b_lead.high), .opq], .agg [.d (I lead.weight), .d (I lead.along), .d (I lead.high)], .d (I wider)] [] 0 Fr.emp (match r with | (r0_StandBook, r0_truths, r0_lead, m4) => .agg [.d (I r0_StandBook.Kind), .d (I r0_StandBook.Front), .d (I r0_StandBook.Back), .d (I r0_StandBook.Radius), .d (.sl 4 (List.map e70 r0_StandBook.Parts)), .d (I r0_StandBook.Along), .d (I r0_StandBook.High), .d (I r0_StandBook.Lean_), .d (I r0_StandBook.Limit), .d (.sl 3 (List.map e65 r0_StandBook.Trials)), .d (.sl 4 (List.map e92 r0_truths)), .d (I r0_lead.weight), .d (I r0_lead.along), .d (I r0_lead.high), .map 4]) (match r with | (r0_StandBook, r0_truths, r0_lead, m4) => [(4, .mp (List.map m94_34 m4))]) 5 Fr.emp := by
  unfold g80 at h
  refine SCall.mkK Tryd.func80 c80 rfl rfl (by kernel_rfl) (fun Q_0 hR_0 hN_0 => ?_)
  refine AW.sa fokW [] ⟨[(2, .d (I wider)), (3, .ptr 0 0), (4, .ptr 1 0), (6, .ptr 2 0)], [(2, .var 83 [.d (I 0), .d (I 0), .d (I 0), .d (I 0), .d (.nilSl), .d (I 0), .d (I 0), .d (I 0), .d (I 0), .d (.nilSl), .d (.nilSl), .d (I 0), .d (I 0), .d (I 0), .d (.nilMap)]), (1, .var 80 [.d (I lead.weight), .d (I lead.along), .d (I lead.high)]), (0, .var 83 (catV (cv25 b_StandBook) [.d (.sl 4 (List.map e92 b_truths)), .d (I b_lead.weight), .d (I b_lead.along), .d (I b_lead.high), .opq]))], 3, Fr.emp, [], 0⟩ (by kernel_rfl) ?_
  refine AW.sa fokW [] ⟨[(2, .d (I wider)), (3, .ptr 0 0), (4, .ptr 1 0), (6, .ptr 2 0), (7, .ptr 3 0)], [(3, .var 83 (catV (cv25 b_StandBook) [.d (.sl 4 (List.map e92 b_truths)), .d (I b_lead.weight), .d (I b_lead.along), .d (I b_lead.high), .opq])), (2, .var 83 [.d (I 0), .d (I 0), .d (I 0), .d (I 0), .d (.nilSl), .d (I 0), .d (I 0), .d (I 0), .d (I 0), .d (.nilSl), .d (.nilSl), .d (I 0), .d (I 0), .d (I 0), .d (.nilMap)]), (1, .var 80 [.d (I lead.weight), .d (I lead.along), .d (I lead.high)]), (0, .var 83 (catV (cv25 b_StandBook) [.d (.sl 4 (List.map e92 b_truths)), .d (I b_lead.weight), .d (I b_lead.along), .d (I b_lead.high), .opq]))], 4, Fr.emp, [], 0⟩ (by kernel_rfl) ?_
  refine AW.sa fokW [] ⟨[(6, .ptr 2 0), (7, .ptr 3 0)], [(3, .var 83 [.d (I b_StandBook.Kind), .d (I (wr (b_StandBook.Front + wider))), .d (I (wr (b_StandBook.Back + wider))), .d (I b_StandBook.Radius), .d (.sl 4 (List.map e70 b_StandBook.Parts)), .d (I b_StandBook.Along), .d (I b_StandBook.High), .d (I b_StandBook.Lean_), .d (I b_StandBook.Limit), .d (.sl 3 (List.map e65 b_StandBook.Trials)), .d (.sl 4 (List.map e92 b_truths)), .d (I lead.weight), .d (I lead.along), .d (I lead.high), .map 4]), (4, .mp (List.map m94_34 [])), (2, .var 83 [.d (I 0), .d (I 0), .d (I 0), .d (I 0), .d (.nilSl), .d (I 0), .d (I 0), .d (I 0), .d (I 0), .d (.nilSl), .d (.nilSl), .d (I 0), .d (I 0), .d (I 0), .d (.nilMap)])], 5, Fr.emp, [], 0⟩ (by kernel_rfl) ?_
  refine AW.sa fokW [] ⟨[(6, .ptr 2 0)], [(2, .var 83 [.d (I b_StandBook.Kind), .d (I (wr (b_StandBook.Front + wider))), .d (I (wr (b_StandBook.Back + wider))), .d (I b_StandBook.Radius), .d (.sl 4 (List.map e70 b_StandBook.Parts)), .d (I b_StandBook.Along), .d (I b_StandBook.High), .d (I b_StandBook.Lean_), .d (I b_StandBook.Limit), .d (.sl 3 (List.map e65 b_StandBook.Trials)), .d (.sl 4 (List.map e92 b_truths)), .d (I lead.weight), .d (I lead.along), .d (I lead.high), .map 4]), (4, .mp (List.map m94_34 []))], 5, Fr.emp, [], 0⟩ (by kernel_rfl) ?_
  obtain rfl := Option.some.inj h
  exact AW.ret (hR_0 _ (retX (.cons (.agg rfl rfl (Nat.le_of_ble_eq_true rfl)) .nil) (.refl _) rfl (by kernel_rfl) (by kernel_rfl)))
def g81a (b_StandBook : StandBook) (b_truths : (List (Nat → Int))) (b_lead : Stand_load) (m0 : List (Stand_child × StandRatio)) : Option (Bool × (List (Stand_child × StandRatio))) := (g76a b_StandBook b_truths b_lead 1 m0).bind fun (r0, m0_1) => (bif r0 then ((g76a b_StandBook b_truths b_lead b_StandBook.Limit m0_1).bind fun (r0_1, m0_1_1) => some (r0_1, m0_1_1)) else (some (false, m0_1))).bind fun (v, m) => some (v, m)
theorem k81a (b_StandBook : StandBook) (b_truths : (List (Nat → Int))) (b_lead : Stand_load) (m0 : List (Stand_child × StandRatio)) (r : Bool × (List (Stand_child × StandRatio))) (h : g81a b_StandBook b_truths b_lead m0 = some r) : SCall Tryd.prog Gs 81 [.agg [.d (I b_StandBook.Kind), .d (I b_StandBook.Front), .d (I b_StandBook.Back), .d (I b_StandBook.Radius), .d (.sl 4 (List.map e70 b_StandBook.Parts)), .d (I b_StandBook.Along), .d (I b_StandBook.High), .d (I b_StandBook.Lean_), .d (I b_StandBook.Limit), .d (.sl 3 (List.map e65 b_StandBook.Trials)), .d (.sl 4 (List.map e92 b_truths)), .d (I b_lead.weight), .d (I b_lead.along), .d (I b_lead.high), .map 0]] [(0, .mp (List.map m94_34 m0))] 1 Fr.emp (match r with | (r0_2, m0_2) => .d (.bool r0_2)) (match r with | (r0_2, m0_2) => [(0, .mp (List.map m94_34 m0_2))]) 1 Fr.emp := by
  unfold g81a at h
  refine SCall.mkK Tryd.func81 c81 rfl rfl (by kernel_rfl) (fun Q_0 hR_0 hN_0 => ?_)
  refine AW.sa fokW [] ⟨[(1, .ptr 1 0)], [(1, .var 83 (catV (cv25 b_StandBook) [.d (.sl 4 (List.map e92 b_truths)), .d (I b_lead.weight), .d (I b_lead.along), .d (I b_lead.high), .map 0])), (0, .mp (List.map m94_34 m0))], 2, Fr.emp, [], 1⟩ (by kernel_rfl) ?_
  refine AW.srwK (fun Q_1 hQ_1 => ?_)
  refine RW.au fokW 1 [] ⟨[(1, .ptr 1 0), (3, .agg [.d (I b_StandBook.Kind), .d (I b_StandBook.Front), .d (I b_StandBook.Back), .d (I b_StandBook.Radius), .d (.sl 4 (List.map e70 b_StandBook.Parts)), .d (I b_StandBook.Along), .d (I b_StandBook.High), .d (I b_StandBook.Lean_), .d (I b_StandBook.Limit), .d (.sl 3 (List.map e65 b_StandBook.Trials)), .d (.sl 4 (List.map e92 b_truths)), .d (I b_lead.weight), .d (I b_lead.along), .d (I b_lead.high), .map 0])], [(1, .var 83 (catV (cv25 b_StandBook) [.d (.sl 4 (List.map e92 b_truths)), .d (I b_lead.weight), .d (I b_lead.along), .d (I b_lead.high), .map 0])), (0, .mp (List.map m94_34 m0))], 2, Fr.emp, [], 1⟩ (by kernel_rfl) ?_
  obtain ⟨⟨r0, m0_1⟩, hx_2, h⟩ := bsome h
  refine RW.one fokW (r_callS (zr := []) [0] trivial rfl (k76a b_StandBook b_truths b_lead 1 m0 _ hx_2) ⟨rfl, trivial⟩ rfl rfl ⟨.refl _, .refl _, trivial⟩ rfl rfl rfl (r_end ?_))
  refine RW.au fokW 1 [] ⟨[(1, .ptr 1 0), (5, .d (.bool r0))], [(0, .mp (List.map m94_34 m0_1)), (1, .var 83 (catV (cv25 b_StandBook) [.d (.sl 4 (List.map e92 b_truths)), .d (I b_lead.weight), .d (I b_lead.along), .d (I b_lead.high), .map 0]))], 2, Fr.emp, [], 1⟩ (by kernel_rfl) ?_
  obtain ⟨c_3, hx_3, h⟩ := bsome h
  refine RW.cut fokW 6 (match c_3 with | (v, m) => ⟨[(11, .d (.bool v))], [(0, .mp (List.map m94_34 m))], 1, Fr.emp, [], 1⟩) ?_ ?_
  · refine r_split 5 rfl (fun hb_5 => ?_) (fun hb_5 => ?_)
    · have h := ifT hb_5 hx_3
      refine RunC.auX 4 ⟨[(5, .d (.bool true)), (6, .agg [.d (I b_StandBook.Kind), .d (I b_StandBook.Front), .d (I b_StandBook.Back), .d (I b_StandBook.Radius), .d (.sl 4 (List.map e70 b_StandBook.Parts)), .d (I b_StandBook.Along), .d (I b_StandBook.High), .d (I b_StandBook.Lean_), .d (I b_StandBook.Limit), .d (.sl 3 (List.map e65 b_StandBook.Trials)), .d (.sl 4 (List.map e92 b_truths)), .d (I b_lead.weight), .d (I b_lead.along), .d (I b_lead.high), .map 0]), (9, .d (I b_StandBook.Limit))], [(0, .mp (List.map m94_34 m0_1)), (1, .var 83 (catV (cv25 b_StandBook) [.d (.sl 4 (List.map e92 b_truths)), .d (I b_lead.weight), .d (I b_lead.along), .d (I b_lead.high), .map 0]))], 2, Fr.emp, [], 1⟩ (by kernel_rfl) ?_
      obtain ⟨⟨r0_1, m0_1_1⟩, hx_4, h⟩ := bsome h
      refine r_callS (zr := []) [0] rfl rfl (k76a b_StandBook b_truths b_lead b_StandBook.Limit m0_1 _ hx_4) ⟨rfl, trivial⟩ rfl rfl ⟨.refl _, .refl _, trivial⟩ rfl rfl rfl ?_
      refine RunC.auX 1 ⟨[(11, .d (.bool r0_1))], [(0, .mp (List.map m94_34 m0_1_1)), (1, .var 83 (catV (cv25 b_StandBook) [.d (.sl 4 (List.map e92 b_truths)), .d (I b_lead.weight), .d (I b_lead.along), .d (I b_lead.high), .map 0]))], 2, Fr.emp, [], 1⟩ (by kernel_rfl) ?_
      obtain rfl := Option.some.inj h
      refine RunC.finJ (Can.kp (by kernel_rfl))
    · have h := ifF hb_5 hx_3
      refine RunC.auX 6 ⟨[(11, .d (.bool false))], [(0, .mp (List.map m94_34 m0_1)), (1, .var 83 (catV (cv25 b_StandBook) [.d (.sl 4 (List.map e92 b_truths)), .d (I b_lead.weight), .d (I b_lead.along), .d (I b_lead.high), .map 0]))], 2, Fr.emp, [], 1⟩ (by kernel_rfl) ?_
      obtain rfl := Option.some.inj h
      refine RunC.finJ (Can.kp (by kernel_rfl))
  · obtain ⟨v, m⟩ := c_3
    refine RW.au fokW 1 [] ⟨[(2, .d (.bool v))], [(0, .mp (List.map m94_34 m))], 1, Fr.emp, [], 1⟩ (by kernel_rfl) ?_
    refine RW.nil ?_
    refine hQ_1 _ ?_
    obtain rfl := Option.some.inj h
    exact AW.ret (hR_0 _ (retX (.cons (.tmp rfl) .nil) (.refl _) rfl (by kernel_rfl) (by kernel_rfl)))
def g31_11 (along : Int) (r0_StandBook6 : StandBook) (r0_truths6 : (List (Nat → Int))) (r0_lead6 : Stand_load) : Int → Unit → Option (Ctl (Unit) (Int × Int)) := fun v _ => (g80 r0_StandBook6 r0_truths6 r0_lead6 (Stand_load.mk v (wr (v * along)) 0) 0).bind fun (r0_StandBook, r0_truths, r0_lead, m4) => (g81a r0_StandBook r0_truths r0_lead m4).bind fun (r0_2, m0_2) => bif r0_2 then (some (.brk (v, 0))) else (some (.next ()))
def g31 (x : StandBook) (along : Int) : Option (Int × Int) := (g63 along (-60) 60).bind fun r0 => (g67 x r0).bind fun r_20 => match r_20 with | .next (r0_StandBook5, r0_truths5, r0_lead5, r1_2) => (must (decide (r1_2 ≠ 0))).bind fun _ => some (0, r1_2) | .brk (r0_StandBook6, r0_truths6, r0_lead6, r1_3, m4_1) => bif (decide (r1_3 ≠ 0)) then (some (0, r1_3)) else (bindC (forC (g31_11 along r0_StandBook6 r0_truths6 r0_lead6) (((100 : Int) - 0).toNat) 0 ()) fun _ => some (0, 4))
theorem k31 (x : StandBook) (along : Int) (r : Int × Int) (h : g31 x along = some r) : SCall Tryd.prog Gs 31 [.agg [.d (I x.Kind), .d (I x.Front), .d (I x.Back), .d (I x.Radius), .d (.sl 4 (List.map e70 x.Parts)), .d (I x.Along), .d (I x.High), .d (I x.Lean_), .d (I x.Limit), .d (.sl 3 (List.map e65 x.Trials))], .d (I along)] [] 0 Fr.emp (match r with | (r0_5, r1_5) => .tup [.d (I r0_5), .d (I r1_5)]) [] 0 Fr.emp := by
  unfold g31 at h
  refine SCall.mkK Tryd.func31 c31 rfl rfl (by kernel_rfl) (fun Q_0 hR_0 hN_0 => ?_)
  refine AW.sa fokW [] ⟨[(1, .d (I along)), (2, .ptr 0 0)], [(0, .var 25 (cv25 x))], 1, Fr.emp, [], 0⟩ (by kernel_rfl) ?_
  refine AW.sdrwK fokW (fun Q_1 hQ_1 => ?_)
  refine RunC.auX 2 ⟨[(1, .d (I along)), (10, .agg [.d (I x.Kind), .d (I x.Front), .d (I x.Back), .d (I x.Radius), .d (.sl 4 (List.map e70 x.Parts)), .d (I x.Along), .d (I x.High), .d (I x.Lean_), .d (I x.Limit), .d (.sl 3 (List.map e65 x.Trials))]), (11, .d (I along))], [(0, .var 25 (cv25 x))], 1, Fr.emp, [], 0⟩ (by kernel_rfl) ?_
  obtain ⟨r0, hx_2, h⟩ := bsome h
  refine r_call trivial rfl (k63 along (-60) 60 _ hx_2) rfl rfl ?_
  obtain ⟨r_20, hx_3, h⟩ := bsome h
  rcases r_20 with (⟨r0_StandBook5, r0_truths5, r0_lead5, r1_2⟩ | (⟨r0_StandBook6, r0_truths6, r0_lead6, r1_3, m4_1⟩))
  · refine r_callS (zr := []) [] trivial rfl (k67 x r0 _ hx_3) trivial rfl rfl ⟨.refl _, .refl _, trivial⟩ rfl rfl rfl ?_
    obtain ⟨_, hv_4, h⟩ := bsome h
    have hf_5 := must_ok hv_4
    refine RunC.auX 6 ⟨[(1, .d (I along)), (6, .ptr 1 0), (7, .d (I r1_2))], [(1, .var 83 (catV (cv25 r0_StandBook5) [.d (.sl 4 (List.map e92 r0_truths5)), .d (I r0_lead5.weight), .d (I r0_lead5.along), .d (I r0_lead5.high), .d (.nilMap)])), (0, .var 25 (cv25 x))], 2, Fr.emp, [], 0⟩ (by kernel_rfl) ?_
    refine RunC.fin ⟨[(1, .d (I along)), (6, .ptr 1 0), (7, .d (I r1_2))], [(1, .var 83 (catV (cv25 r0_StandBook5) [.d (.sl 4 (List.map e92 r0_truths5)), .d (I r0_lead5.weight), .d (I r0_lead5.along), .d (I r0_lead5.high), .d (.nilMap)]))], 2, Fr.emp, [], 0⟩ (by kernel_rfl) (by kernel_rfl) ?_
    refine hQ_1 _ ?_
    refine AW.seqK (fun K_6 hK_6 => ?_)
    refine AW.sa fokW [] ⟨[(1, .d (I along)), (6, .ptr 1 0), (7, .d (I r1_2)), (17, .d (.bool (decide (r1_2 ≠ 0))))], [(1, .var 83 (catV (cv25 r0_StandBook5) [.d (.sl 4 (List.map e92 r0_truths5)), .d (I r0_lead5.weight), .d (I r0_lead5.along), .d (I r0_lead5.high), .d (.nilMap)]))], 2, Fr.emp, [], 0⟩ (by kernel_rfl) ?_
    refine AW.cond rfl (fun hb_7 => ?_) (fun hb_7 => False.elim (by rw [hf_5] at hb_7; cases hb_7))
    refine AW.sa fokW [] ⟨[(4, .d (I 0)), (5, .d (I r1_2))], [], 2, Fr.emp, [], 0⟩ (by kernel_rfl) ?_
    obtain rfl := Option.some.inj h
    exact AW.ret (hR_0 _ (retX (.cons (.tmp rfl) (.cons (.tmp rfl) .nil)) (.refl _) rfl (by kernel_rfl) (by kernel_rfl)))
  · refine r_callS (zr := []) [] trivial rfl (k67 x r0 _ hx_3) trivial rfl rfl ⟨.refl _, .refl _, trivial⟩ rfl rfl rfl ?_
    refine RunC.auX 6 ⟨[(1, .d (I along)), (6, .ptr 6 0), (7, .d (I r1_3))], [(6, .var 83 (catV (cv25 r0_StandBook6) [.d (.sl 4 (List.map e92 r0_truths6)), .d (I r0_lead6.weight), .d (I r0_lead6.along), .d (I r0_lead6.high), .map 5])), (5, .mp (List.map m94_34 m4_1)), (0, .var 25 (cv25 x))], 7, Fr.emp, [], 0⟩ (by kernel_rfl) ?_
    refine RunC.fin ⟨[(1, .d (I along)), (6, .ptr 6 0), (7, .d (I r1_3))], [(6, .var 83 (catV (cv25 r0_StandBook6) [.d (.sl 4 (List.map e92 r0_truths6)), .d (I r0_lead6.weight), .d (I r0_lead6.along), .d (I r0_lead6.high), .map 5])), (5, .mp (List.map m94_34 m4_1))], 7, Fr.emp, [], 0⟩ (by kernel_rfl) (by kernel_rfl) ?_
    refine hQ_1 _ ?_
    refine AW.seqK (fun K_8 hK_8 => ?_)
    refine AW.sa fokW [] ⟨[(1, .d (I along)), (6, .ptr 6 0), (7, .d (I r1_3)), (17, .d (.bool (decide (r1_3 ≠ 0))))], [(6, .var 83 (catV (cv25 r0_StandBook6) [.d (.sl 4 (List.map e92 r0_truths6)), .d (I r0_lead6.weight), .d (I r0_lead6.along), .d (I r0_lead6.high), .map 5])), (5, .mp (List.map m94_34 m4_1))], 7, Fr.emp, [], 0⟩ (by kernel_rfl) ?_
    refine AW.cond rfl (fun hb_9 => ?_) (fun hb_9 => ?_)
    · have h := ifT hb_9 h
      refine AW.sa fokW [] ⟨[(4, .d (I 0)), (5, .d (I r1_3))], [], 7, Fr.emp, [], 0⟩ (by kernel_rfl) ?_
      obtain rfl := Option.some.inj h
      exact AW.ret (hR_0 _ (retX (.cons (.tmp rfl) (.cons (.tmp rfl) .nil)) (.refl _) rfl (by kernel_rfl) (by kernel_rfl)))
    · have h := ifF hb_9 h
      refine AW.skip ?_
      refine hK_8 _ ?_
      refine AW.seqK (fun K_10 hK_10 => ?_)
      refine AW.sa fokW [] ⟨[(1, .d (I along)), (6, .ptr 6 0), (19, .d (I 0))], [(6, .var 83 (catV (cv25 r0_StandBook6) [.d (.sl 4 (List.map e92 r0_truths6)), .d (I r0_lead6.weight), .d (I r0_lead6.along), .d (I r0_lead6.high), .map 5])), (5, .mp (List.map m94_34 m4_1))], 7, Fr.emp, [], 0⟩ (by kernel_rfl) ?_
      refine AW.block ?_
      have hN_11 : (100 : Int) ≤ 9223372036854775807 := by decide
      obtain ⟨out_11, hx_11, hk_11⟩ := bsomeC h
      refine AW.lpCK (fun (v : Int) (_ : Unit) => ⟨[(1, .d (I along)), (6, .ptr 6 0), (19, .d (I v))], [(6, .var 83 (catV (cv25 r0_StandBook6) [.d (.sl 4 (List.map e92 r0_truths6)), .d (I r0_lead6.weight), .d (I r0_lead6.along), .d (I r0_lead6.high), .map 5])), (5, .mp (List.map m94_34 m4_1))], 7, Fr.emp, [], 0⟩) (g31_11 along r0_StandBook6 r0_truths6 r0_lead6) (100) hx_11 (Can.kp (by kernel_rfl)) (fun v s_11 hi_11 hl_11 c_11 h hb_11 K_11 hK_11 => ?_) (fun v s_11 hi_11 hl_11 hout => ?_)
      · unfold g31_11 at h
        refine AW.sa fokW [] ⟨[(1, .d (I along)), (6, .ptr 6 0), (19, .d (I v)), (20, .d (.bool (decide (v < 100))))], [(6, .var 83 (catV (cv25 r0_StandBook6) [.d (.sl 4 (List.map e92 r0_truths6)), .d (I r0_lead6.weight), .d (I r0_lead6.along), .d (I r0_lead6.high), .map 5])), (5, .mp (List.map m94_34 m4_1))], 7, Fr.emp, [], 0⟩ (by kernel_rfl) ?_
        refine AW.seqK (fun K_12 hK_12 => ?_)
        refine AW.cond rfl (fun hb_13 => ?_) (fun hb_13 => False.elim (by have := of_decide_eq_false hb_13; omega))
        refine AW.skip ?_
        refine hK_12 _ ?_
        refine AW.seqK (fun K_14 hK_14 => ?_)
        refine AW.block ?_
        refine AW.sa fokW [] ⟨[(1, .d (I along)), (6, .ptr 6 0), (8, .d (I v)), (19, .d (I v))], [(6, .var 83 (catV (cv25 r0_StandBook6) [.d (.sl 4 (List.map e92 r0_truths6)), .d (I r0_lead6.weight), .d (I r0_lead6.along), .d (I r0_lead6.high), .map 5])), (5, .mp (List.map m94_34 m4_1))], 7, Fr.emp, [], 0⟩ (by kernel_rfl) ?_
        refine AW.srwK (fun Q_15 hQ_15 => ?_)
        refine RW.au fokW 6 [] ⟨[(1, .d (I along)), (6, .ptr 6 0), (8, .d (I v)), (19, .d (I v)), (22, .agg [.d (I r0_StandBook6.Kind), .d (I r0_StandBook6.Front), .d (I r0_StandBook6.Back), .d (I r0_StandBook6.Radius), .d (.sl 4 (List.map e70 r0_StandBook6.Parts)), .d (I r0_StandBook6.Along), .d (I r0_StandBook6.High), .d (I r0_StandBook6.Lean_), .d (I r0_StandBook6.Limit), .d (.sl 3 (List.map e65 r0_StandBook6.Trials)), .d (.sl 4 (List.map e92 r0_truths6)), .d (I r0_lead6.weight), .d (I r0_lead6.along), .d (I r0_lead6.high), .map 5]), (27, .agg [.d (I v), .d (I (wr (v * along))), .d (I 0)])], [(6, .var 83 (catV (cv25 r0_StandBook6) [.d (.sl 4 (List.map e92 r0_truths6)), .d (I r0_lead6.weight), .d (I r0_lead6.along), .d (I r0_lead6.high), .map 5])), (5, .mp (List.map m94_34 m4_1))], 7, Fr.emp, [], 0⟩ (by kernel_rfl) ?_
        obtain ⟨⟨r0_StandBook, r0_truths, r0_lead, m4⟩, hx_16, h⟩ := bsome h
        refine RW.one fokW (r_callS (zr := []) [] trivial rfl (k80 r0_StandBook6 r0_truths6 r0_lead6 (Stand_load.mk v (wr (v * along)) 0) 0 _ hx_16) trivial rfl rfl ⟨(Frz.agg_of ⟨.refl _, .refl _, .refl _, .refl _, .refl _, .refl _, .refl _, .refl _, .refl _, .refl _, .refl _, .refl _, .refl _, .refl _, (.opq rfl (by intro _ h; cases h)), trivial⟩), .refl _, .refl _, trivial⟩ rfl rfl rfl (r_end ?_))
        obtain ⟨⟨r0_2, m0_2⟩, hx_17, h⟩ := bsome h
        refine RW.one fokW (r_callS (zr := []) [11] trivial rfl (k81a r0_StandBook r0_truths r0_lead m4 _ hx_17) ⟨rfl, trivial⟩ rfl rfl ⟨.refl _, trivial⟩ rfl rfl rfl (r_end ?_))
        refine RW.nil ?_
        refine hQ_15 _ ?_
        refine AW.cond rfl (fun hb_18 => ?_) (fun hb_18 => ?_)
        · have h := ifT hb_18 h
          refine AW.sa fokW [] ⟨[(4, .d (I v)), (5, .d (I 0))], [], 12, Fr.emp, [], 0⟩ (by kernel_rfl) ?_
          obtain rfl := Option.some.inj h
          have e_1 := hb_11 _ rfl
          subst e_1
          obtain rfl := Aft.bk hk_11
          exact AW.ret (hR_0 _ (retX (.cons (.tmp rfl) (.cons (.tmp rfl) .nil)) (.refl _) rfl (by kernel_rfl) (by kernel_rfl)))
        · have h := ifF hb_18 h
          refine AW.skip ?_
          refine hK_14 _ ?_
          refine AW.ra fokW [] ⟨[(1, .d (I along)), (6, .ptr 6 0), (19, .d (I (wr (v + 1))))], [(6, .var 83 (catV (cv25 r0_StandBook6) [.d (.sl 4 (List.map e92 r0_truths6)), .d (I r0_lead6.weight), .d (I r0_lead6.along), .d (I r0_lead6.high), .map 5])), (5, .mp (List.map m94_34 m4_1))], 12, Fr.emp, [], 0⟩ (by kernel_rfl) ?_
          obtain rfl := Option.some.inj h
          have ew : wr (v + 1) = v + 1 := inext (N := 100) (by omega) (by omega) (by omega)
          rw [ew]
          exact hK_11 _ _ rfl (Can.kp (by kernel_rfl))
      · subst hout
        have h := Aft.nx hk_11
        refine AW.sa fokW [] ⟨[(1, .d (I along)), (6, .ptr 6 0), (19, .d (I v)), (20, .d (.bool (decide (v < 100))))], [(6, .var 83 (catV (cv25 r0_StandBook6) [.d (.sl 4 (List.map e92 r0_truths6)), .d (I r0_lead6.weight), .d (I r0_lead6.along), .d (I r0_lead6.high), .map 5])), (5, .mp (List.map m94_34 m4_1))], 7, Fr.emp, [], 0⟩ (by kernel_rfl) ?_
        refine AW.seqK (fun K_19 hK_19 => ?_)
        refine AW.cond rfl (fun hb_20 => False.elim (by have := of_decide_eq_true hb_20; omega)) (fun hb_20 => ?_)
        refine AW.exit ?_
        refine hK_10 _ ?_
        refine AW.sa fokW [] ⟨[(4, .d (I 0)), (5, .d (I 4))], [], 7, Fr.emp, [], 0⟩ (by kernel_rfl) ?_
        obtain rfl := Option.some.inj h
        exact AW.ret (hR_0 _ (retX (.cons (.tmp rfl) (.cons (.tmp rfl) .nil)) (.refl _) rfl (by kernel_rfl) (by kernel_rfl)))
def g60 (top : Int) (bottom : Int) : Option StandRatio := some (StandRatio.mk top bottom)
theorem k60 (top : Int) (bottom : Int) (r : StandRatio) (h : g60 top bottom = some r) : SCall Tryd.prog Gs 60 [.d (I top), .d (I bottom)] [] 0 Fr.emp (.agg [.d (I r.Top), .d (I r.Bottom)]) [] 0 Fr.emp := by
  unfold g60 at h
  refine SCall.mkK Tryd.func60 c60 rfl rfl (by kernel_rfl) (fun Q_0 hR_0 hN_0 => ?_)
  refine AW.sa fokW [] ⟨[(0, .d (I top)), (1, .d (I bottom)), (4, .ptr 0 0)], [(0, .var 34 [.d (I 0), .d (I 0)])], 1, Fr.emp, [], 0⟩ (by kernel_rfl) ?_
  refine AW.sa fokW [] ⟨[(4, .ptr 0 0)], [(0, .var 34 [.d (I top), .d (I bottom)])], 1, Fr.emp, [], 0⟩ (by kernel_rfl) ?_
  obtain rfl := Option.some.inj h
  exact AW.ret (hR_0 _ (retX (.cons (.agg rfl rfl (Nat.le_of_ble_eq_true rfl)) .nil) (.refl _) rfl (by kernel_rfl) (by kernel_rfl)))
end Go.Proofs.Tz
