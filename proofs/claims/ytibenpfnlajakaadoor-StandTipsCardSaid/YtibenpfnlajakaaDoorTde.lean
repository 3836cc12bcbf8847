/- Told functions, and that the program does so, part 5. Conditions: none. -/
import Derived.Test.YtibenpfnlajakaaDoorTdd
set_option linter.unusedVariables false
set_option linter.unusedSimpArgs false
namespace Go.Proofs.Tz
open Go Go.Abs Go.Proofs
def g37_4 (l : (List Int)) (m : (List Int)) : (Bool × Int) → Option (Ctl (Bool × Int) (Bool)) := fun  (is2, i) => (bif is2 then (some (decide (i < (l.length : Int)))) else (some false)).bind fun v => bif v then ((ixL l i).bind fun p => (ixL m i).bind fun p1 => some (.next ((decide (p = p1)), (wr (i + 1))))) else (some (.brk is2))
def g37 (l : (List Int)) (m : (List Int)) : Option Bool := ((whileC (g37_4 l m) 1000 ((decide ((l.length : Int) = (m.length : Int))), 0)).bind fun is1 => some is1).bind fun is => some is
theorem k37 (l : (List Int)) (m : (List Int)) (r : Bool) (h : g37 l m = some r) : SCall Tryd.prog Gs 37 [.d (.sl 1 (List.map e3 l)), .d (.sl 1 (List.map e3 m))] [] 0 Fr.emp (.d (.bool r)) [] 0 Fr.emp := by
  unfold g37 at h
  refine SCall.mkK Tryd.func37 c37 rfl rfl (by kernel_rfl) (fun Q_0 hR_0 hN_0 => ?_)
  refine AW.sa fokW [] ⟨[(0, .d (.sl 1 (List.map e3 l))), (1, .d (.sl 1 (List.map e3 m)))], [], 0, Fr.emp, [], 0⟩ (by kernel_rfl) ?_
  refine AW.srwK (fun Q_1 hQ_1 => ?_)
  refine RW.au fokW 1 [] ⟨[(0, .d (.sl 1 (List.map e3 l))), (1, .d (.sl 1 (List.map e3 m))), (7, .d (.sl 1 (List.map e3 l)))], [], 0, Fr.emp, [], 0⟩ (by kernel_rfl) ?_
  refine RW.one fokW (r_lenX trivial rfl lenm (r_end ?_))
  refine RW.au fokW 1 [] ⟨[(0, .d (.sl 1 (List.map e3 l))), (1, .d (.sl 1 (List.map e3 m))), (8, .d (I (l.length : Int))), (9, .d (.sl 1 (List.map e3 m)))], [], 0, Fr.emp, [], 0⟩ (by kernel_rfl) ?_
  refine RW.one fokW (r_lenX trivial rfl lenm (r_end ?_))
  refine RW.au fokW 2 [] ⟨[(0, .d (.sl 1 (List.map e3 l))), (1, .d (.sl 1 (List.map e3 m))), (5, .d (.bool (decide ((l.length : Int) = (m.length : Int)))))], [], 0, Fr.emp, [], 0⟩ (by kernel_rfl) ?_
  refine RW.nil ?_
  refine hQ_1 _ ?_
  obtain ⟨is, hx_2, h⟩ := bsome h
  refine AW.jnSK (fun (is : Bool) => ⟨[(5, .d (.bool is))], [], 0, Fr.emp, [], 0⟩) (c := is) (fun K_2 hK_2 => ?_) ?_
  · have h := hx_2
    refine AW.sa fokW [] ⟨[(0, .d (.sl 1 (List.map e3 l))), (1, .d (.sl 1 (List.map e3 m))), (5, .d (.bool (decide ((l.length : Int) = (m.length : Int))))), (6, .d (I 0))], [], 0, Fr.emp, [], 0⟩ (by kernel_rfl) ?_
    obtain ⟨is1, hx_3, h⟩ := bsome h
    refine AW.jqSK (fun (is1 : Bool) => ⟨[(5, .d (.bool is1))], [], 0, Fr.emp, [], 0⟩) (c := is1) (fun K_3 hK_3 => ?_) ?_
    · have h := hx_3
      refine AW.block ?_
      refine AW.whK (fun (⟨is2, i⟩ : Bool × Int) => ⟨[(0, .d (.sl 1 (List.map e3 l))), (1, .d (.sl 1 (List.map e3 m))), (5, .d (.bool is2)), (6, .d (I i))], [], 0, Fr.emp, [], 0⟩) (g37_4 l m) h (Can.kp (by kernel_rfl)) (fun s_4 c_4 h hb_4 K_4 hK_4 => ?_)
      obtain ⟨is2, i⟩ := s_4
      unfold g37_4 at h
      refine AW.seqK (fun K_5 hK_5 => ?_)
      refine AW.srwK (fun Q_6 hQ_6 => ?_)
      refine RW.au fokW 2 [] ⟨[(0, .d (.sl 1 (List.map e3 l))), (1, .d (.sl 1 (List.map e3 m))), (5, .d (.bool is2)), (6, .d (I i)), (13, .d (.bool is2))], [], 0, Fr.emp, [], 0⟩ (by kernel_rfl) ?_
      obtain ⟨v, hx_7, h⟩ := bsome h
      refine RW.cut fokW 5 (⟨[(0, .d (.sl 1 (List.map e3 l))), (1, .d (.sl 1 (List.map e3 m))), (5, .d (.bool is2)), (6, .d (I i)), (18, .d (.bool v))], [], 0, Fr.emp, [], 0⟩) ?_ ?_
      · refine r_split 13 rfl (fun hb_8 => ?_) (fun hb_8 => ?_)
        · have h := ifT hb_8 hx_7
          refine RunC.auX 2 ⟨[(0, .d (.sl 1 (List.map e3 l))), (1, .d (.sl 1 (List.map e3 m))), (5, .d (.bool is2)), (6, .d (I i)), (13, .d (.bool true)), (14, .d (I i)), (15, .d (.sl 1 (List.map e3 l)))], [], 0, Fr.emp, [], 0⟩ (by kernel_rfl) ?_
          refine r_lenX rfl rfl lenm ?_
          refine RunC.auX 2 ⟨[(0, .d (.sl 1 (List.map e3 l))), (1, .d (.sl 1 (List.map e3 m))), (5, .d (.bool is2)), (6, .d (I i)), (14, .d (I i)), (15, .d (.sl 1 (List.map e3 l))), (16, .d (I (l.length : Int))), (17, .d (.bool (decide (i < (l.length : Int))))), (18, .d (.bool (decide (i < (l.length : Int)))))], [], 0, Fr.emp, [], 0⟩ (by kernel_rfl) ?_
          obtain rfl := Option.some.inj h
          refine RunC.finJ (Can.kp (by kernel_rfl))
        · have h := ifF hb_8 hx_7
          refine RunC.auX 5 ⟨[(0, .d (.sl 1 (List.map e3 l))), (1, .d (.sl 1 (List.map e3 m))), (5, .d (.bool is2)), (6, .d (I i)), (14, .undef), (15, .undef), (16, .undef), (17, .undef), (18, .d (.bool false))], [], 0, Fr.emp, [], 0⟩ (by kernel_rfl) ?_
          obtain rfl := Option.some.inj h
          refine RunC.finJ (Can.kp (by kernel_rfl))
      · refine RW.nil ?_
        refine hQ_6 _ ?_
        refine AW.cond rfl (fun hb_9 => ?_) (fun hb_9 => ?_)
        · have h := ifT hb_9 h
          refine AW.skip ?_
          refine hK_5 _ ?_
          refine AW.seqK (fun K_10 hK_10 => ?_)
          refine AW.block ?_
          refine AW.drw fokW ?_
          refine RunC.auX 2 ⟨[(0, .d (.sl 1 (List.map e3 l))), (1, .d (.sl 1 (List.map e3 m))), (6, .d (I i)), (21, .d (.sl 1 (List.map e3 l))), (22, .d (I i))], [], 0, Fr.emp, [], 0⟩ (by kernel_rfl) ?_
          obtain ⟨p, hv_12, h⟩ := bsome h
          refine r_iaD trivial rfl rfl (ixL_ok hv_12).1 (row := e3 p) (mapget (ixL_ok hv_12).2) ?_
          refine RunC.auX 3 ⟨[(0, .d (.sl 1 (List.map e3 l))), (1, .d (.sl 1 (List.map e3 m))), (6, .d (I i)), (24, .d (I p)), (25, .d (.sl 1 (List.map e3 m))), (26, .d (I i))], [], 0, Fr.emp, [], 0⟩ (by kernel_rfl) ?_
          obtain ⟨p1, hv_13, h⟩ := bsome h
          refine r_iaD trivial rfl rfl (ixL_ok hv_13).1 (row := e3 p1) (mapget (ixL_ok hv_13).2) ?_
          refine RunC.auX 3 ⟨[(0, .d (.sl 1 (List.map e3 l))), (1, .d (.sl 1 (List.map e3 m))), (5, .d (.bool (decide (p = p1)))), (6, .d (I i))], [], 0, Fr.emp, [], 0⟩ (by kernel_rfl) ?_
          refine RunC.fin ⟨[(0, .d (.sl 1 (List.map e3 l))), (1, .d (.sl 1 (List.map e3 m))), (5, .d (.bool (decide (p = p1)))), (6, .d (I i))], [], 0, Fr.emp, [], 0⟩ (by kernel_rfl) (by kernel_rfl) ?_
          refine hK_10 _ ?_
          refine AW.ra fokW [] ⟨[(0, .d (.sl 1 (List.map e3 l))), (1, .d (.sl 1 (List.map e3 m))), (5, .d (.bool (decide (p = p1)))), (6, .d (I (wr (i + 1))))], [], 0, Fr.emp, [], 0⟩ (by kernel_rfl) ?_
          obtain rfl := Option.some.inj h
          exact hK_4 _ _ rfl (Can.kp (by kernel_rfl))
        · have h := ifF hb_9 h
          refine AW.exit ?_
          obtain rfl := Option.some.inj h
          obtain rfl := hb_4 _ rfl
          exact hK_3 _ (Can.kp (by kernel_rfl))
    · obtain rfl := Option.some.inj h
      exact hK_2 _ (Can.kp (by kernel_rfl))
  · refine AW.sa fokW [] ⟨[(4, .d (.bool is))], [], 0, Fr.emp, [], 0⟩ (by kernel_rfl) ?_
    obtain rfl := Option.some.inj h
    exact AW.ret (hR_0 _ (retX (.cons (.tmp rfl) .nil) (.refl _) rfl (by kernel_rfl) (by kernel_rfl)))
def g24  : Option Bool := (g55).bind fun r0 => (g20 r0 20 (-8)).bind fun (r0_6, r1_6) => (g55).bind fun r0_1 => (g22 r0_1 10 (-8)).bind fun (r0_3, r1_4) => (g59).bind fun r0_1_1 => (g27 r0_1_1).bind fun (r0_4, r1_5) => (g55).bind fun r0_2 => (g29 r0_2 20).bind fun (r0_4_1, r1_5_1) => (g55).bind fun r0_5 => (g31 r0_5 10).bind fun (r0_5_1, r1_5_2) => bindC ((bif (decide (r1_6 ≠ 0)) then (some true) else (bif (decide (r1_4 ≠ 0)) then (some true) else (bif (decide (r1_5 ≠ 0)) then (some true) else (bif (decide (r1_5_1 ≠ 0)) then (some true) else (bif (decide (r1_5_2 ≠ 0)) then (some true) else (bif (decide (r0_6 ≠ 1)) then (some true) else ((g60 38 17).bind fun r0_7 => bif (true != ((r0_3.Top == r0_7.Top) && ((r0_3.Bottom == r0_7.Bottom) && true))) then (some true) else (bif (decide (r0_4 ≠ 22)) then (some true) else ((g46 (-7) 8).bind fun r0_8 => bif (true != ((r0_4_1.Low == r0_8.Low) && ((r0_4_1.High == r0_8.High) && true))) then (some true) else (some (decide (r0_5_1 ≠ 6)))))))))))).bind fun v => bif v then (some (.brk false)) else (some (.next ())) : Option (Ctl (Unit) (Bool))) fun _ => (g55).bind fun r0_9 => (g33 r0_9).bind fun (r0_4_2, r1_5_3) => (g58).bind fun r0_3_1 => (g35 r0_3_1).bind fun (r0_2_1, r1_2) => (g55).bind fun r0_10 => (g25 r0_10 19).bind fun (r0_4_3, r1_4_1) => (g55).bind fun r0_11 => (g16 r0_11).bind fun (r0_1_2, r1_1) => (g56).bind fun r0_1_3 => (g22 r0_1_3 30 (-8)).bind fun (r0_3_2, r1_4_2) => (bif (decide (r1_5_3 = 0)) then (bif (decide (r1_2 = 0)) then (bif (decide (r1_4_1 = 0)) then (bif (decide (r1_1 = 0)) then (bif (decide (r1_4_2 = 0)) then (bif (decide (r0_4_2 = 2)) then ((g37 r0_2_1 [0]).bind fun r0_12 => bif r0_12 then (bif r0_4_3 then (bif r0_1_2 then ((g60 (-200) 9).bind fun r0_13 => some (false != ((r0_3_2.Top == r0_13.Top) && ((r0_3_2.Bottom == r0_13.Bottom) && true)))) else (some false)) else (some false)) else (some false)) else (some false)) else (some false)) else (some false)) else (some false)) else (some false)) else (some false)).bind fun t => some t
theorem k24  (r : Bool) (h : g24 = some r) : SCall Tryd.prog Gs 24 [] [] 0 Fr.emp (.d (.bool r)) [] 0 Fr.emp := by
  unfold g24 at h
  refine SCall.mkK Tryd.func24 c24 rfl rfl (by kernel_rfl) (fun Q_0 hR_0 hN_0 => ?_)
  refine AW.sa fokW [] ⟨[], [], 0, Fr.emp, [], 0⟩ (by kernel_rfl) ?_
  refine AW.srwK (fun Q_1 hQ_1 => ?_)
  obtain ⟨r0, hx_2, h⟩ := bsome h
  refine RW.one fokW (r_call trivial rfl (k55 _ hx_2) rfl rfl (r_end ?_))
  obtain ⟨⟨r0_6, r1_6⟩, hx_3, h⟩ := bsome h
  refine RW.one fokW (r_call trivial rfl (k20 r0 20 (-8) _ hx_3) rfl rfl (r_end ?_))
  refine RW.au fokW 5 [] ⟨[(1, .d (I r0_6)), (2, .d (I r1_6))], [], 0, Fr.emp, [], 0⟩ (by kernel_rfl) ?_
  refine RW.nil ?_
  refine hQ_1 _ ?_
  refine AW.srwK (fun Q_4 hQ_4 => ?_)
  obtain ⟨r0_1, hx_5, h⟩ := bsome h
  refine RW.one fokW (r_call trivial rfl (k55 _ hx_5) rfl rfl (r_end ?_))
  obtain ⟨⟨r0_3, r1_4⟩, hx_6, h⟩ := bsome h
  refine RW.one fokW (r_call trivial rfl (k22 r0_1 10 (-8) _ hx_6) rfl rfl (r_end ?_))
  refine RW.au fokW 6 [] ⟨[(1, .d (I r0_6)), (2, .d (I r1_6)), (3, .ptr 0 0), (4, .d (I r1_4))], [(0, .var 34 [.d (I r0_3.Top), .d (I r0_3.Bottom)])], 1, Fr.emp, [], 0⟩ (by kernel_rfl) ?_
  refine RW.nil ?_
  refine hQ_4 _ ?_
  refine AW.srwK (fun Q_7 hQ_7 => ?_)
  obtain ⟨r0_1_1, hx_8, h⟩ := bsome h
  refine RW.one fokW (r_call trivial rfl (k59 _ hx_8) rfl rfl (r_end ?_))
  obtain ⟨⟨r0_4, r1_5⟩, hx_9, h⟩ := bsome h
  refine RW.one fokW (r_call trivial rfl (k27 r0_1_1 _ hx_9) rfl rfl (r_end ?_))
  refine RW.au fokW 5 [] ⟨[(1, .d (I r0_6)), (2, .d (I r1_6)), (3, .ptr 0 0), (4, .d (I r1_4)), (5, .d (I r0_4)), (6, .d (I r1_5))], [(0, .var 34 [.d (I r0_3.Top), .d (I r0_3.Bottom)])], 1, Fr.emp, [], 0⟩ (by kernel_rfl) ?_
  refine RW.nil ?_
  refine hQ_7 _ ?_
  refine AW.srwK (fun Q_10 hQ_10 => ?_)
  obtain ⟨r0_2, hx_11, h⟩ := bsome h
  refine RW.one fokW (r_call trivial rfl (k55 _ hx_11) rfl rfl (r_end ?_))
  obtain ⟨⟨r0_4_1, r1_5_1⟩, hx_12, h⟩ := bsome h
  refine RW.one fokW (r_call trivial rfl (k29 r0_2 20 _ hx_12) rfl rfl (r_end ?_))
  refine RW.au fokW 6 [] ⟨[(1, .d (I r0_6)), (2, .d (I r1_6)), (3, .ptr 0 0), (4, .d (I r1_4)), (5, .d (I r0_4)), (6, .d (I r1_5)), (7, .ptr 1 0), (8, .d (I r1_5_1))], [(1, .var 42 [.d (I r0_4_1.Low), .d (I r0_4_1.High)]), (0, .var 34 [.d (I r0_3.Top), .d (I r0_3.Bottom)])], 2, Fr.emp, [], 0⟩ (by kernel_rfl) ?_
  refine RW.nil ?_
  refine hQ_10 _ ?_
  refine AW.srwK (fun Q_13 hQ_13 => ?_)
  obtain ⟨r0_5, hx_14, h⟩ := bsome h
  refine RW.one fokW (r_call trivial rfl (k55 _ hx_14) rfl rfl (r_end ?_))
  obtain ⟨⟨r0_5_1, r1_5_2⟩, hx_15, h⟩ := bsome h
  refine RW.one fokW (r_call trivial rfl (k31 r0_5 10 _ hx_15) rfl rfl (r_end ?_))
  refine RW.au fokW 5 [] ⟨[(1, .d (I r0_6)), (2, .d (I r1_6)), (3, .ptr 0 0), (4, .d (I r1_4)), (5, .d (I r0_4)), (6, .d (I r1_5)), (7, .ptr 1 0), (8, .d (I r1_5_1)), (9, .d (I r0_5_1)), (10, .d (I r1_5_2))], [(1, .var 42 [.d (I r0_4_1.Low), .d (I r0_4_1.High)]), (0, .var 34 [.d (I r0_3.Top), .d (I r0_3.Bottom)])], 2, Fr.emp, [], 0⟩ (by kernel_rfl) ?_
  refine RW.nil ?_
  refine hQ_13 _ ?_
  obtain ⟨c_16, hx_16, hk_16⟩ := bsomeC h
  refine AW.jnK (fun (_ : Unit) => ⟨[], [], 0, Fr.emp, [], 0⟩) (c := c_16) (fun K_16 hK_16 => ?_) (fun j_16 hj_16 => ?_)
  · have h := hx_16
    obtain ⟨v, hx_17, h⟩ := bsome h
    refine AW.jnSK (fun (v : Bool) => ⟨[(80, .d (.bool v))], [], 0, Fr.emp, [], 0⟩) (c := v) (fun K_17 hK_17 => ?_) ?_
    · have h := hx_17
      refine AW.drw fokW ?_
      refine RunC.auX 3 ⟨[(1, .d (I r0_6)), (3, .ptr 0 0), (4, .d (I r1_4)), (5, .d (I r0_4)), (6, .d (I r1_5)), (7, .ptr 1 0), (8, .d (I r1_5_1)), (9, .d (I r0_5_1)), (10, .d (I r1_5_2)), (43, .d (.bool (decide (r1_6 ≠ 0))))], [(1, .var 42 [.d (I r0_4_1.Low), .d (I r0_4_1.High)]), (0, .var 34 [.d (I r0_3.Top), .d (I r0_3.Bottom)])], 2, Fr.emp, [], 0⟩ (by kernel_rfl) ?_
      refine r_split 43 rfl (fun hb_19 => ?_) (fun hb_19 => ?_)
      · have h := ifT hb_19 h
        refine RunC.auX 37 ⟨[(80, .d (.bool true))], [(1, .var 42 [.d (I r0_4_1.Low), .d (I r0_4_1.High)]), (0, .var 34 [.d (I r0_3.Top), .d (I r0_3.Bottom)])], 2, Fr.emp, [], 0⟩ (by kernel_rfl) ?_
        refine RunC.fin ⟨[(80, .d (.bool true))], [], 2, Fr.emp, [], 0⟩ (by kernel_rfl) (by kernel_rfl) ?_
        obtain rfl := Option.some.inj h
        exact hK_17 _ (Can.kp (by kernel_rfl))
      · have h := ifF hb_19 h
        refine RunC.auX 4 ⟨[(1, .d (I r0_6)), (3, .ptr 0 0), (5, .d (I r0_4)), (6, .d (I r1_5)), (7, .ptr 1 0), (8, .d (I r1_5_1)), (9, .d (I r0_5_1)), (10, .d (I r1_5_2)), (47, .d (.bool (decide (r1_4 ≠ 0))))], [(1, .var 42 [.d (I r0_4_1.Low), .d (I r0_4_1.High)]), (0, .var 34 [.d (I r0_3.Top), .d (I r0_3.Bottom)])], 2, Fr.emp, [], 0⟩ (by kernel_rfl) ?_
        refine r_split 47 rfl (fun hb_20 => ?_) (fun hb_20 => ?_)
        · have h := ifT hb_20 h
          refine RunC.auX 33 ⟨[(80, .d (.bool true))], [(1, .var 42 [.d (I r0_4_1.Low), .d (I r0_4_1.High)]), (0, .var 34 [.d (I r0_3.Top), .d (I r0_3.Bottom)])], 2, Fr.emp, [], 0⟩ (by kernel_rfl) ?_
          refine RunC.fin ⟨[(80, .d (.bool true))], [], 2, Fr.emp, [], 0⟩ (by kernel_rfl) (by kernel_rfl) ?_
          obtain rfl := Option.some.inj h
          exact hK_17 _ (Can.kp (by kernel_rfl))
        · have h := ifF hb_20 h
          refine RunC.auX 4 ⟨[(1, .d (I r0_6)), (3, .ptr 0 0), (5, .d (I r0_4)), (7, .ptr 1 0), (8, .d (I r1_5_1)), (9, .d (I r0_5_1)), (10, .d (I r1_5_2)), (51, .d (.bool (decide (r1_5 ≠ 0))))], [(1, .var 42 [.d (I r0_4_1.Low), .d (I r0_4_1.High)]), (0, .var 34 [.d (I r0_3.Top), .d (I r0_3.Bottom)])], 2, Fr.emp, [], 0⟩ (by kernel_rfl) ?_
          refine r_split 51 rfl (fun hb_21 => ?_) (fun hb_21 => ?_)
          · have h := ifT hb_21 h
            refine RunC.auX 29 ⟨[(80, .d (.bool true))], [(1, .var 42 [.d (I r0_4_1.Low), .d (I r0_4_1.High)]), (0, .var 34 [.d (I r0_3.Top), .d (I r0_3.Bottom)])], 2, Fr.emp, [], 0⟩ (by kernel_rfl) ?_
            refine RunC.fin ⟨[(80, .d (.bool true))], [], 2, Fr.emp, [], 0⟩ (by kernel_rfl) (by kernel_rfl) ?_
            obtain rfl := Option.some.inj h
            exact hK_17 _ (Can.kp (by kernel_rfl))
          · have h := ifF hb_21 h
            refine RunC.auX 4 ⟨[(1, .d (I r0_6)), (3, .ptr 0 0), (5, .d (I r0_4)), (7, .ptr 1 0), (9, .d (I r0_5_1)), (10, .d (I r1_5_2)), (55, .d (.bool (decide (r1_5_1 ≠ 0))))], [(1, .var 42 [.d (I r0_4_1.Low), .d (I r0_4_1.High)]), (0, .var 34 [.d (I r0_3.Top), .d (I r0_3.Bottom)])], 2, Fr.emp, [], 0⟩ (by kernel_rfl) ?_
            refine r_split 55 rfl (fun hb_22 => ?_) (fun hb_22 => ?_)
            · have h := ifT hb_22 h
              refine RunC.auX 25 ⟨[(80, .d (.bool true))], [(1, .var 42 [.d (I r0_4_1.Low), .d (I r0_4_1.High)]), (0, .var 34 [.d (I r0_3.Top), .d (I r0_3.Bottom)])], 2, Fr.emp, [], 0⟩ (by kernel_rfl) ?_
              refine RunC.fin ⟨[(80, .d (.bool true))], [], 2, Fr.emp, [], 0⟩ (by kernel_rfl) (by kernel_rfl) ?_
              obtain rfl := Option.some.inj h
              exact hK_17 _ (Can.kp (by kernel_rfl))
            · have h := ifF hb_22 h
              refine RunC.auX 4 ⟨[(1, .d (I r0_6)), (3, .ptr 0 0), (5, .d (I r0_4)), (7, .ptr 1 0), (9, .d (I r0_5_1)), (59, .d (.bool (decide (r1_5_2 ≠ 0))))], [(1, .var 42 [.d (I r0_4_1.Low), .d (I r0_4_1.High)]), (0, .var 34 [.d (I r0_3.Top), .d (I r0_3.Bottom)])], 2, Fr.emp, [], 0⟩ (by kernel_rfl) ?_
              refine r_split 59 rfl (fun hb_23 => ?_) (fun hb_23 => ?_)
              · have h := ifT hb_23 h
                refine RunC.auX 21 ⟨[(80, .d (.bool true))], [(1, .var 42 [.d (I r0_4_1.Low), .d (I r0_4_1.High)]), (0, .var 34 [.d (I r0_3.Top), .d (I r0_3.Bottom)])], 2, Fr.emp, [], 0⟩ (by kernel_rfl) ?_
                refine RunC.fin ⟨[(80, .d (.bool true))], [], 2, Fr.emp, [], 0⟩ (by kernel_rfl) (by kernel_rfl) ?_
                obtain rfl := Option.some.inj h
                exact hK_17 _ (Can.kp (by kernel_rfl))
              · have h := ifF hb_23 h
                refine RunC.auX 4 ⟨[(3, .ptr 0 0), (5, .d (I r0_4)), (7, .ptr 1 0), (9, .d (I r0_5_1)), (63, .d (.bool (decide (r0_6 ≠ 1))))], [(1, .var 42 [.d (I r0_4_1.Low), .d (I r0_4_1.High)]), (0, .var 34 [.d (I r0_3.Top), .d (I r0_3.Bottom)])], 2, Fr.emp, [], 0⟩ (by kernel_rfl) ?_
                refine r_split 63 rfl (fun hb_24 => ?_) (fun hb_24 => ?_)
                · have h := ifT hb_24 h
                  refine RunC.auX 17 ⟨[(80, .d (.bool true))], [(1, .var 42 [.d (I r0_4_1.Low), .d (I r0_4_1.High)]), (0, .var 34 [.d (I r0_3.Top), .d (I r0_3.Bottom)])], 2, Fr.emp, [], 0⟩ (by kernel_rfl) ?_
                  refine RunC.fin ⟨[(80, .d (.bool true))], [], 2, Fr.emp, [], 0⟩ (by kernel_rfl) (by kernel_rfl) ?_
                  obtain rfl := Option.some.inj h
                  exact hK_17 _ (Can.kp (by kernel_rfl))
                · have h := ifF hb_24 h
                  refine RunC.auX 1 ⟨[(5, .d (I r0_4)), (7, .ptr 1 0), (9, .d (I r0_5_1)), (63, .d (.bool false)), (64, .agg [.d (I r0_3.Top), .d (I r0_3.Bottom)])], [(1, .var 42 [.d (I r0_4_1.Low), .d (I r0_4_1.High)]), (0, .var 34 [.d (I r0_3.Top), .d (I r0_3.Bottom)])], 2, Fr.emp, [], 0⟩ (by kernel_rfl) ?_
                  obtain ⟨r0_7, hx_25, h⟩ := bsome h
                  refine r_call rfl rfl (k60 38 17 _ hx_25) rfl rfl ?_
                  refine r_aeq rfl rfl rfl rfl rfl ft34 rfl rfl rfl ?_
                  refine RunC.auX 2 ⟨[(5, .d (I r0_4)), (7, .ptr 1 0), (9, .d (I r0_5_1)), (68, .d (.bool (true != ((r0_3.Top == r0_7.Top) && ((r0_3.Bottom == r0_7.Bottom) && true)))))], [(1, .var 42 [.d (I r0_4_1.Low), .d (I r0_4_1.High)]), (0, .var 34 [.d (I r0_3.Top), .d (I r0_3.Bottom)])], 2, Fr.emp, [], 0⟩ (by kernel_rfl) ?_
                  refine r_split 68 rfl (fun hb_26 => ?_) (fun hb_26 => ?_)
                  · have h := ifT hb_26 h
                    refine RunC.auX 12 ⟨[(80, .d (.bool true))], [(1, .var 42 [.d (I r0_4_1.Low), .d (I r0_4_1.High)]), (0, .var 34 [.d (I r0_3.Top), .d (I r0_3.Bottom)])], 2, Fr.emp, [], 0⟩ (by kernel_rfl) ?_
                    refine RunC.fin ⟨[(80, .d (.bool true))], [], 2, Fr.emp, [], 0⟩ (by kernel_rfl) (by kernel_rfl) ?_
                    obtain rfl := Option.some.inj h
                    exact hK_17 _ (Can.kp (by kernel_rfl))
                  · have h := ifF hb_26 h
                    refine RunC.auX 4 ⟨[(7, .ptr 1 0), (9, .d (I r0_5_1)), (72, .d (.bool (decide (r0_4 ≠ 22))))], [(1, .var 42 [.d (I r0_4_1.Low), .d (I r0_4_1.High)]), (0, .var 34 [.d (I r0_3.Top), .d (I r0_3.Bottom)])], 2, Fr.emp, [], 0⟩ (by kernel_rfl) ?_
                    refine r_split 72 rfl (fun hb_27 => ?_) (fun hb_27 => ?_)
                    · have h := ifT hb_27 h
                      refine RunC.auX 8 ⟨[(80, .d (.bool true))], [(1, .var 42 [.d (I r0_4_1.Low), .d (I r0_4_1.High)]), (0, .var 34 [.d (I r0_3.Top), .d (I r0_3.Bottom)])], 2, Fr.emp, [], 0⟩ (by kernel_rfl) ?_
                      refine RunC.fin ⟨[(80, .d (.bool true))], [], 2, Fr.emp, [], 0⟩ (by kernel_rfl) (by kernel_rfl) ?_
                      obtain rfl := Option.some.inj h
                      exact hK_17 _ (Can.kp (by kernel_rfl))
                    · have h := ifF hb_27 h
                      refine RunC.auX 1 ⟨[(9, .d (I r0_5_1)), (72, .d (.bool false)), (73, .agg [.d (I r0_4_1.Low), .d (I r0_4_1.High)])], [(1, .var 42 [.d (I r0_4_1.Low), .d (I r0_4_1.High)]), (0, .var 34 [.d (I r0_3.Top), .d (I r0_3.Bottom)])], 2, Fr.emp, [], 0⟩ (by kernel_rfl) ?_
                      obtain ⟨r0_8, hx_28, h⟩ := bsome h
                      refine r_call rfl rfl (k46 (-7) 8 _ hx_28) rfl rfl ?_
                      refine r_aeq rfl rfl rfl rfl rfl ft42 rfl rfl rfl ?_
                      refine RunC.auX 2 ⟨[(9, .d (I r0_5_1)), (77, .d (.bool (true != ((r0_4_1.Low == r0_8.Low) && ((r0_4_1.High == r0_8.High) && true)))))], [(1, .var 42 [.d (I r0_4_1.Low), .d (I r0_4_1.High)]), (0, .var 34 [.d (I r0_3.Top), .d (I r0_3.Bottom)])], 2, Fr.emp, [], 0⟩ (by kernel_rfl) ?_
                      refine r_split 77 rfl (fun hb_29 => ?_) (fun hb_29 => ?_)
                      · have h := ifT hb_29 h
                        refine RunC.auX 3 ⟨[(80, .d (.bool true))], [(1, .var 42 [.d (I r0_4_1.Low), .d (I r0_4_1.High)]), (0, .var 34 [.d (I r0_3.Top), .d (I r0_3.Bottom)])], 2, Fr.emp, [], 0⟩ (by kernel_rfl) ?_
                        refine RunC.fin ⟨[(80, .d (.bool true))], [], 2, Fr.emp, [], 0⟩ (by kernel_rfl) (by kernel_rfl) ?_
                        obtain rfl := Option.some.inj h
                        exact hK_17 _ (Can.kp (by kernel_rfl))
                      · have h := ifF hb_29 h
                        refine RunC.auX 3 ⟨[(80, .d (.bool (decide (r0_5_1 ≠ 6))))], [(1, .var 42 [.d (I r0_4_1.Low), .d (I r0_4_1.High)]), (0, .var 34 [.d (I r0_3.Top), .d (I r0_3.Bottom)])], 2, Fr.emp, [], 0⟩ (by kernel_rfl) ?_
                        refine RunC.fin ⟨[(80, .d (.bool (decide (r0_5_1 ≠ 6))))], [], 2, Fr.emp, [], 0⟩ (by kernel_rfl) (by kernel_rfl) ?_
                        obtain rfl := Option.some.inj h
                        exact hK_17 _ (Can.kp (by kernel_rfl))
    · refine AW.cond rfl (fun hb_30 => ?_) (fun hb_30 => ?_)
      · have h := ifT hb_30 h
        refine AW.sa fokW [] ⟨[(0, .d (.bool false))], [], 0, Fr.emp, [], 0⟩ (by kernel_rfl) ?_
        obtain rfl := Option.some.inj h
        obtain rfl := Aft.bk hk_16
        exact AW.ret (hR_0 _ (retX (.cons (.tmp rfl) .nil) (.refl _) rfl (by kernel_rfl) (by kernel_rfl)))
      · have h := ifF hb_30 h
        refine AW.skip ?_
        obtain rfl := Option.some.inj h
        exact hK_16 _ _ rfl (Can.kp (by kernel_rfl))
  · subst hj_16
    have h := Aft.nx hk_16
    refine AW.srwK (fun Q_31 hQ_31 => ?_)
    obtain ⟨r0_9, hx_32, h⟩ := bsome h
    refine RW.one fokW (r_call trivial rfl (k55 _ hx_32) rfl rfl (r_end ?_))
    obtain ⟨⟨r0_4_2, r1_5_3⟩, hx_33, h⟩ := bsome h
    refine RW.one fokW (r_call trivial rfl (k33 r0_9 _ hx_33) rfl rfl (r_end ?_))
    refine RW.au fokW 5 [] ⟨[(2, .d (I r1_5_3)), (11, .d (I r0_4_2))], [], 0, Fr.emp, [], 0⟩ (by kernel_rfl) ?_
    refine RW.nil ?_
    refine hQ_31 _ ?_
    refine AW.srwK (fun Q_34 hQ_34 => ?_)
    obtain ⟨r0_3_1, hx_35, h⟩ := bsome h
    refine RW.one fokW (r_call trivial rfl (k58 _ hx_35) rfl rfl (r_end ?_))
    obtain ⟨⟨r0_2_1, r1_2⟩, hx_36, h⟩ := bsome h
    refine RW.one fokW (r_call trivial rfl (k35 r0_3_1 _ hx_36) rfl rfl (r_end ?_))
    refine RW.au fokW 5 [] ⟨[(2, .d (I r1_5_3)), (4, .d (I r1_2)), (11, .d (I r0_4_2)), (12, .d (.sl 1 (List.map e3 r0_2_1)))], [], 0, Fr.emp, [], 0⟩ (by kernel_rfl) ?_
    refine RW.nil ?_
    refine hQ_34 _ ?_
    refine AW.srwK (fun Q_37 hQ_37 => ?_)
    obtain ⟨r0_10, hx_38, h⟩ := bsome h
    refine RW.one fokW (r_call trivial rfl (k55 _ hx_38) rfl rfl (r_end ?_))
    obtain ⟨⟨r0_4_3, r1_4_1⟩, hx_39, h⟩ := bsome h
    refine RW.one fokW (r_call trivial rfl (k25 r0_10 19 _ hx_39) rfl rfl (r_end ?_))
    refine RW.au fokW 5 [] ⟨[(2, .d (I r1_5_3)), (4, .d (I r1_2)), (6, .d (I r1_4_1)), (11, .d (I r0_4_2)), (12, .d (.sl 1 (List.map e3 r0_2_1))), (13, .d (.bool r0_4_3))], [], 0, Fr.emp, [], 0⟩ (by kernel_rfl) ?_
    refine RW.nil ?_
    refine hQ_37 _ ?_
    refine AW.srwK (fun Q_40 hQ_40 => ?_)
    obtain ⟨r0_11, hx_41, h⟩ := bsome h
    refine RW.one fokW (r_call trivial rfl (k55 _ hx_41) rfl rfl (r_end ?_))
    obtain ⟨⟨r0_1_2, r1_1⟩, hx_42, h⟩ := bsome h
    refine RW.one fokW (r_call trivial rfl (k16 r0_11 _ hx_42) rfl rfl (r_end ?_))
    refine RW.au fokW 5 [] ⟨[(2, .d (I r1_5_3)), (4, .d (I r1_2)), (6, .d (I r1_4_1)), (8, .d (I r1_1)), (11, .d (I r0_4_2)), (12, .d (.sl 1 (List.map e3 r0_2_1))), (13, .d (.bool r0_4_3)), (14, .d (.bool r0_1_2))], [], 0, Fr.emp, [], 0⟩ (by kernel_rfl) ?_
    refine RW.nil ?_
    refine hQ_40 _ ?_
    refine AW.srwK (fun Q_43 hQ_43 => ?_)
    obtain ⟨r0_1_3, hx_44, h⟩ := bsome h
    refine RW.one fokW (r_call trivial rfl (k56 _ hx_44) rfl rfl (r_end ?_))
    obtain ⟨⟨r0_3_2, r1_4_2⟩, hx_45, h⟩ := bsome h
    refine RW.one fokW (r_call trivial rfl (k22 r0_1_3 30 (-8) _ hx_45) rfl rfl (r_end ?_))
    refine RW.au fokW 6 [] ⟨[(2, .d (I r1_5_3)), (4, .d (I r1_2)), (6, .d (I r1_4_1)), (8, .d (I r1_1)), (10, .d (I r1_4_2)), (11, .d (I r0_4_2)), (12, .d (.sl 1 (List.map e3 r0_2_1))), (13, .d (.bool r0_4_3)), (14, .d (.bool r0_1_2)), (15, .ptr 0 0)], [(0, .var 34 [.d (I r0_3_2.Top), .d (I r0_3_2.Bottom)])], 1, Fr.emp, [], 0⟩ (by kernel_rfl) ?_
    refine RW.nil ?_
    refine hQ_43 _ ?_
    obtain ⟨t, hx_46, h⟩ := bsome h
    refine AW.jnSK (fun (t : Bool) => ⟨[(0, .d (.bool t))], [], 0, Fr.emp, [], 0⟩) (c := t) (fun K_46 hK_46 => ?_) ?_
    · have h := hx_46
      refine AW.drw fokW ?_
      refine RunC.auX 3 ⟨[(4, .d (I r1_2)), (6, .d (I r1_4_1)), (8, .d (I r1_1)), (10, .d (I r1_4_2)), (11, .d (I r0_4_2)), (12, .d (.sl 1 (List.map e3 r0_2_1))), (13, .d (.bool r0_4_3)), (14, .d (.bool r0_1_2)), (15, .ptr 0 0), (108, .d (.bool (decide (r1_5_3 = 0))))], [(0, .var 34 [.d (I r0_3_2.Top), .d (I r0_3_2.Bottom)])], 1, Fr.emp, [], 0⟩ (by kernel_rfl) ?_
      refine r_split 108 rfl (fun hb_48 => ?_) (fun hb_48 => ?_)
      · have h := ifT hb_48 h
        refine RunC.auX 4 ⟨[(6, .d (I r1_4_1)), (8, .d (I r1_1)), (10, .d (I r1_4_2)), (11, .d (I r0_4_2)), (12, .d (.sl 1 (List.map e3 r0_2_1))), (13, .d (.bool r0_4_3)), (14, .d (.bool r0_1_2)), (15, .ptr 0 0), (112, .d (.bool (decide (r1_2 = 0))))], [(0, .var 34 [.d (I r0_3_2.Top), .d (I r0_3_2.Bottom)])], 1, Fr.emp, [], 0⟩ (by kernel_rfl) ?_
        refine r_split 112 rfl (fun hb_49 => ?_) (fun hb_49 => ?_)
        · have h := ifT hb_49 h
          refine RunC.auX 4 ⟨[(8, .d (I r1_1)), (10, .d (I r1_4_2)), (11, .d (I r0_4_2)), (12, .d (.sl 1 (List.map e3 r0_2_1))), (13, .d (.bool r0_4_3)), (14, .d (.bool r0_1_2)), (15, .ptr 0 0), (116, .d (.bool (decide (r1_4_1 = 0))))], [(0, .var 34 [.d (I r0_3_2.Top), .d (I r0_3_2.Bottom)])], 1, Fr.emp, [], 0⟩ (by kernel_rfl) ?_
          refine r_split 116 rfl (fun hb_50 => ?_) (fun hb_50 => ?_)
          · have h := ifT hb_50 h
            refine RunC.auX 4 ⟨[(10, .d (I r1_4_2)), (11, .d (I r0_4_2)), (12, .d (.sl 1 (List.map e3 r0_2_1))), (13, .d (.bool r0_4_3)), (14, .d (.bool r0_1_2)), (15, .ptr 0 0), (120, .d (.bool (decide (r1_1 = 0))))], [(0, .var 34 [.d (I r0_3_2.Top), .d (I r0_3_2.Bottom)])], 1, Fr.emp, [], 0⟩ (by kernel_rfl) ?_
            refine r_split 120 rfl (fun hb_51 => ?_) (fun hb_51 => ?_)
            · have h := ifT hb_51 h
              refine RunC.auX 4 ⟨[(11, .d (I r0_4_2)), (12, .d (.sl 1 (List.map e3 r0_2_1))), (13, .d (.bool r0_4_3)), (14, .d (.bool r0_1_2)), (15, .ptr 0 0), (124, .d (.bool (decide (r1_4_2 = 0))))], [(0, .var 34 [.d (I r0_3_2.Top), .d (I r0_3_2.Bottom)])], 1, Fr.emp, [], 0⟩ (by kernel_rfl) ?_
              refine r_split 124 rfl (fun hb_52 => ?_) (fun hb_52 => ?_)
              · have h := ifT hb_52 h
                refine RunC.auX 4 ⟨[(12, .d (.sl 1 (List.map e3 r0_2_1))), (13, .d (.bool r0_4_3)), (14, .d (.bool r0_1_2)), (15, .ptr 0 0), (128, .d (.bool (decide (r0_4_2 = 2))))], [(0, .var 34 [.d (I r0_3_2.Top), .d (I r0_3_2.Bottom)])], 1, Fr.emp, [], 0⟩ (by kernel_rfl) ?_
                refine r_split 128 rfl (fun hb_53 => ?_) (fun hb_53 => ?_)
                · have h := ifT hb_53 h
                  refine RunC.auX 2 ⟨[(13, .d (.bool r0_4_3)), (14, .d (.bool r0_1_2)), (15, .ptr 0 0), (128, .d (.bool true)), (129, .d (.sl 1 (List.map e3 r0_2_1))), (130, .own 1 (List.map e3 [0]).length)], [(1, .row 3 1 (List.map e3 [0])), (0, .var 34 [.d (I r0_3_2.Top), .d (I r0_3_2.Bottom)])], 2, Fr.emp, [], 0⟩ (by kernel_rfl) ?_
                  obtain ⟨r0_12, hx_54, h⟩ := bsome h
                  refine r_callF (rs := [(1, .row 3 1 (List.map e3 [0]))]) rfl rfl (k37 r0_2_1 [0] _ hx_54) ⟨rfl, trivial⟩ ⟨.refl _, (.own rfl rfl), trivial⟩ rfl rfl rfl ?_
                  refine RunC.auX 2 ⟨[(13, .d (.bool r0_4_3)), (14, .d (.bool r0_1_2)), (15, .ptr 0 0), (133, .d (.bool r0_12))], [(1, .row 3 1 (List.map e3 [0])), (0, .var 34 [.d (I r0_3_2.Top), .d (I r0_3_2.Bottom)])], 2, Fr.emp, [], 0⟩ (by kernel_rfl) ?_
                  refine r_split 133 rfl (fun hb_55 => ?_) (fun hb_55 => ?_)
                  · have h := ifT hb_55 h
                    refine RunC.auX 3 ⟨[(14, .d (.bool r0_1_2)), (15, .ptr 0 0), (136, .d (.bool r0_4_3))], [(1, .row 3 1 (List.map e3 [0])), (0, .var 34 [.d (I r0_3_2.Top), .d (I r0_3_2.Bottom)])], 2, Fr.emp, [], 0⟩ (by kernel_rfl) ?_
                    refine r_split 136 rfl (fun hb_56 => ?_) (fun hb_56 => ?_)
                    · have h := ifT hb_56 h
                      refine RunC.auX 3 ⟨[(15, .ptr 0 0), (139, .d (.bool r0_1_2))], [(1, .row 3 1 (List.map e3 [0])), (0, .var 34 [.d (I r0_3_2.Top), .d (I r0_3_2.Bottom)])], 2, Fr.emp, [], 0⟩ (by kernel_rfl) ?_
                      refine r_split 139 rfl (fun hb_57 => ?_) (fun hb_57 => ?_)
                      · have h := ifT hb_57 h
                        refine RunC.auX 1 ⟨[(139, .d (.bool true)), (140, .agg [.d (I r0_3_2.Top), .d (I r0_3_2.Bottom)])], [(1, .row 3 1 (List.map e3 [0])), (0, .var 34 [.d (I r0_3_2.Top), .d (I r0_3_2.Bottom)])], 2, Fr.emp, [], 0⟩ (by kernel_rfl) ?_
                        obtain ⟨r0_13, hx_58, h⟩ := bsome h
                        refine r_call rfl rfl (k60 (-200) 9 _ hx_58) rfl rfl ?_
                        refine r_aeq rfl rfl rfl rfl rfl ft34 rfl rfl rfl ?_
                        refine RunC.auX 2 ⟨[(0, .d (.bool (false != ((r0_3_2.Top == r0_13.Top) && ((r0_3_2.Bottom == r0_13.Bottom) && true)))))], [(1, .row 3 1 (List.map e3 [0])), (0, .var 34 [.d (I r0_3_2.Top), .d (I r0_3_2.Bottom)])], 2, Fr.emp, [], 0⟩ (by kernel_rfl) ?_
                        refine RunC.fin ⟨[(0, .d (.bool (false != ((r0_3_2.Top == r0_13.Top) && ((r0_3_2.Bottom == r0_13.Bottom) && true)))))], [], 2, Fr.emp, [], 0⟩ (by kernel_rfl) (by kernel_rfl) ?_
                        obtain rfl := Option.some.inj h
                        exact hK_46 _ (Can.kp (by kernel_rfl))
                      · have h := ifF hb_57 h
                        refine RunC.auX 5 ⟨[(0, .d (.bool false))], [(1, .row 3 1 (List.map e3 [0])), (0, .var 34 [.d (I r0_3_2.Top), .d (I r0_3_2.Bottom)])], 2, Fr.emp, [], 0⟩ (by kernel_rfl) ?_
                        refine RunC.fin ⟨[(0, .d (.bool false))], [], 2, Fr.emp, [], 0⟩ (by kernel_rfl) (by kernel_rfl) ?_
                        obtain rfl := Option.some.inj h
                        exact hK_46 _ (Can.kp (by kernel_rfl))
                    · have h := ifF hb_56 h
                      refine RunC.auX 8 ⟨[(0, .d (.bool false))], [(1, .row 3 1 (List.map e3 [0])), (0, .var 34 [.d (I r0_3_2.Top), .d (I r0_3_2.Bottom)])], 2, Fr.emp, [], 0⟩ (by kernel_rfl) ?_
                      refine RunC.fin ⟨[(0, .d (.bool false))], [], 2, Fr.emp, [], 0⟩ (by kernel_rfl) (by kernel_rfl) ?_
                      obtain rfl := Option.some.inj h
                      exact hK_46 _ (Can.kp (by kernel_rfl))
                  · have h := ifF hb_55 h
                    refine RunC.auX 11 ⟨[(0, .d (.bool false))], [(1, .row 3 1 (List.map e3 [0])), (0, .var 34 [.d (I r0_3_2.Top), .d (I r0_3_2.Bottom)])], 2, Fr.emp, [], 0⟩ (by kernel_rfl) ?_
                    refine RunC.fin ⟨[(0, .d (.bool false))], [], 2, Fr.emp, [], 0⟩ (by kernel_rfl) (by kernel_rfl) ?_
                    obtain rfl := Option.some.inj h
                    exact hK_46 _ (Can.kp (by kernel_rfl))
                · have h := ifF hb_53 h
                  refine RunC.auX 16 ⟨[(0, .d (.bool false))], [(0, .var 34 [.d (I r0_3_2.Top), .d (I r0_3_2.Bottom)])], 1, Fr.emp, [], 0⟩ (by kernel_rfl) ?_
                  refine RunC.fin ⟨[(0, .d (.bool false))], [], 1, Fr.emp, [], 0⟩ (by kernel_rfl) (by kernel_rfl) ?_
                  obtain rfl := Option.some.inj h
                  exact hK_46 _ (Can.kp (by kernel_rfl))
              · have h := ifF hb_52 h
                refine RunC.auX 20 ⟨[(0, .d (.bool false))], [(0, .var 34 [.d (I r0_3_2.Top), .d (I r0_3_2.Bottom)])], 1, Fr.emp, [], 0⟩ (by kernel_rfl) ?_
                refine RunC.fin ⟨[(0, .d (.bool false))], [], 1, Fr.emp, [], 0⟩ (by kernel_rfl) (by kernel_rfl) ?_
                obtain rfl := Option.some.inj h
                exact hK_46 _ (Can.kp (by kernel_rfl))
            · have h := ifF hb_51 h
              refine RunC.auX 24 ⟨[(0, .d (.bool false))], [(0, .var 34 [.d (I r0_3_2.Top), .d (I r0_3_2.Bottom)])], 1, Fr.emp, [], 0⟩ (by kernel_rfl) ?_
              refine RunC.fin ⟨[(0, .d (.bool false))], [], 1, Fr.emp, [], 0⟩ (by kernel_rfl) (by kernel_rfl) ?_
              obtain rfl := Option.some.inj h
              exact hK_46 _ (Can.kp (by kernel_rfl))
          · have h := ifF hb_50 h
            refine RunC.auX 28 ⟨[(0, .d (.bool false))], [(0, .var 34 [.d (I r0_3_2.Top), .d (I r0_3_2.Bottom)])], 1, Fr.emp, [], 0⟩ (by kernel_rfl) ?_
            refine RunC.fin ⟨[(0, .d (.bool false))], [], 1, Fr.emp, [], 0⟩ (by kernel_rfl) (by kernel_rfl) ?_
            obtain rfl := Option.some.inj h
            exact hK_46 _ (Can.kp (by kernel_rfl))
        · have h := ifF hb_49 h
          refine RunC.auX 32 ⟨[(0, .d (.bool false))], [(0, .var 34 [.d (I r0_3_2.Top), .d (I r0_3_2.Bottom)])], 1, Fr.emp, [], 0⟩ (by kernel_rfl) ?_
          refine RunC.fin ⟨[(0, .d (.bool false))], [], 1, Fr.emp, [], 0⟩ (by kernel_rfl) (by kernel_rfl) ?_
          obtain rfl := Option.some.inj h
          exact hK_46 _ (Can.kp (by kernel_rfl))
      · have h := ifF hb_48 h
        refine RunC.auX 36 ⟨[(0, .d (.bool false))], [(0, .var 34 [.d (I r0_3_2.Top), .d (I r0_3_2.Bottom)])], 1, Fr.emp, [], 0⟩ (by kernel_rfl) ?_
        refine RunC.fin ⟨[(0, .d (.bool false))], [], 1, Fr.emp, [], 0⟩ (by kernel_rfl) (by kernel_rfl) ?_
        obtain rfl := Option.some.inj h
        exact hK_46 _ (Can.kp (by kernel_rfl))
    · obtain rfl := Option.some.inj h
      exact AW.ret (hR_0 _ (retX (.cons (.tmp rfl) .nil) (.refl _) rfl (by kernel_rfl) (by kernel_rfl)))
def g3 (b : StandBook) (n : (Nat → Int)) : Option Bool := (g16 b).bind fun (r0_1, r1_1) => (g17 b).bind fun (r0_2, r1_1_1) => bindC (bif (true != (r0_1 == r0_2)) then (some (.brk false)) else (bif (decide (r1_1 ≠ r1_1_1)) then (some (.brk false)) else ((g18 b).bind fun A1 => (g19 b).bind fun r0_10 => bif (decide (A1 ≠ r0_10)) then (some (.brk false)) else (some (.next ())))) : Option (Ctl (Unit) (Bool))) fun _ => (g20 b (n 0) (n 1)).bind fun (r0_6, r1_6) => (g21 b (n 0) (n 1)).bind fun (r0_6_1, r1_4) => bif ((decide (r0_6 ≠ r0_6_1)) || (decide (r1_6 ≠ r1_4))) then (some false) else ((g22 b (n 0) (n 1)).bind fun (r0_3, r1_4_1) => (g23 b (n 0) (n 1)).bind fun (r0_3_1, r1_2) => (bif ((false != ((r0_3.Top == r0_3_1.Top) && ((r0_3.Bottom == r0_3_1.Bottom) && true))) && (decide (r1_4_1 = r1_2))) then ((g24).bind fun t2 => some t2) else (some false)).bind fun v => some v)
theorem k3 (b : StandBook) (n : (Nat → Int)) (r : Bool) (h : g3 b n = some r) : SCall Tryd.prog Gs 3 [.agg [.d (I b.Kind), .d (I b.Front), .d (I b.Back), .d (I b.Radius), .d (.sl 4 (List.map e70 b.Parts)), .d (I b.Along), .d (I b.High), .d (I b.Lean_), .d (I b.Limit), .d (.sl 3 (List.map e65 b.Trials))], .agg [.d (I (n 0)), .d (I (n 1))]] [] 0 Fr.emp (.d (.bool r)) [] 0 Fr.emp := by
  unfold g3 at h
  refine SCall.mkK Tryd.func3 c3 rfl rfl (by kernel_rfl) (fun Q_0 hR_0 hN_0 => ?_)
  refine AW.sa fokW [] ⟨[(2, .ptr 0 0), (3, .ptr 1 0)], [(1, .var 26 [.d (I (n 0)), .d (I (n 1))]), (0, .var 25 (cv25 b))], 2, Fr.emp, [], 0⟩ (by kernel_rfl) ?_
  refine AW.srwK (fun Q_1 hQ_1 => ?_)
  refine RW.au fokW 1 [] ⟨[(2, .ptr 0 0), (3, .ptr 1 0), (14, .agg [.d (I b.Kind), .d (I b.Front), .d (I b.Back), .d (I b.Radius), .d (.sl 4 (List.map e70 b.Parts)), .d (I b.Along), .d (I b.High), .d (I b.Lean_), .d (I b.Limit), .d (.sl 3 (List.map e65 b.Trials))])], [(1, .var 26 [.d (I (n 0)), .d (I (n 1))]), (0, .var 25 (cv25 b))], 2, Fr.emp, [], 0⟩ (by kernel_rfl) ?_
  obtain ⟨⟨r0_1, r1_1⟩, hx_2, h⟩ := bsome h
  refine RW.one fokW (r_call trivial rfl (k16 b _ hx_2) rfl rfl (r_end ?_))
  refine RW.au fokW 5 [] ⟨[(2, .ptr 0 0), (3, .ptr 1 0), (5, .d (.bool r0_1)), (6, .d (I r1_1))], [(1, .var 26 [.d (I (n 0)), .d (I (n 1))]), (0, .var 25 (cv25 b))], 2, Fr.emp, [], 0⟩ (by kernel_rfl) ?_
  refine RW.nil ?_
  refine hQ_1 _ ?_
  refine AW.srwK (fun Q_3 hQ_3 => ?_)
  refine RW.au fokW 1 [] ⟨[(2, .ptr 0 0), (3, .ptr 1 0), (5, .d (.bool r0_1)), (6, .d (I r1_1)), (19, .agg [.d (I b.Kind), .d (I b.Front), .d (I b.Back), .d (I b.Radius), .d (.sl 4 (List.map e70 b.Parts)), .d (I b.Along), .d (I b.High), .d (I b.Lean_), .d (I b.Limit), .d (.sl 3 (List.map e65 b.Trials))])], [(1, .var 26 [.d (I (n 0)), .d (I (n 1))]), (0, .var 25 (cv25 b))], 2, Fr.emp, [], 0⟩ (by kernel_rfl) ?_
  obtain ⟨⟨r0_2, r1_1_1⟩, hx_4, h⟩ := bsome h
  refine RW.one fokW (r_call trivial rfl (k17 b _ hx_4) rfl rfl (r_end ?_))
  refine RW.au fokW 5 [] ⟨[(2, .ptr 0 0), (3, .ptr 1 0), (5, .d (.bool r0_1)), (6, .d (I r1_1)), (7, .d (.bool r0_2)), (8, .d (I r1_1_1))], [(1, .var 26 [.d (I (n 0)), .d (I (n 1))]), (0, .var 25 (cv25 b))], 2, Fr.emp, [], 0⟩ (by kernel_rfl) ?_
  refine RW.nil ?_
  refine hQ_3 _ ?_
  obtain ⟨c_5, hx_5, hk_5⟩ := bsomeC h
  refine AW.jnK (fun (_ : Unit) => ⟨[(2, .ptr 0 0), (3, .ptr 1 0)], [(1, .var 26 [.d (I (n 0)), .d (I (n 1))]), (0, .var 25 (cv25 b))], 2, Fr.emp, [], 0⟩) (c := c_5) (fun K_5 hK_5 => ?_) (fun j_5 hj_5 => ?_)
  · have h := hx_5
    refine AW.sdrwK fokW (fun Q_6 hQ_6 => ?_)
    refine RunC.auX 4 ⟨[(2, .ptr 0 0), (3, .ptr 1 0), (6, .d (I r1_1)), (8, .d (I r1_1_1)), (26, .d (.bool (true != (r0_1 == r0_2))))], [(1, .var 26 [.d (I (n 0)), .d (I (n 1))]), (0, .var 25 (cv25 b))], 2, Fr.emp, [], 0⟩ (by kernel_rfl) ?_
    refine r_split 26 rfl (fun hb_7 => ?_) (fun hb_7 => ?_)
    · have h := ifT hb_7 h
      refine RunC.auX 11 ⟨[(2, .ptr 0 0), (3, .ptr 1 0), (37, .d (.bool true))], [(1, .var 26 [.d (I (n 0)), .d (I (n 1))]), (0, .var 25 (cv25 b))], 2, Fr.emp, [], 0⟩ (by kernel_rfl) ?_
      refine RunC.fin ⟨[(2, .ptr 0 0), (3, .ptr 1 0), (37, .d (.bool true))], [(1, .var 26 [.d (I (n 0)), .d (I (n 1))]), (0, .var 25 (cv25 b))], 2, Fr.emp, [], 0⟩ (by kernel_rfl) (by kernel_rfl) ?_
      refine hQ_6 _ ?_
      refine AW.condT rfl ?_
      refine AW.sa fokW [] ⟨[(4, .d (.bool false))], [], 2, Fr.emp, [], 0⟩ (by kernel_rfl) ?_
      obtain rfl := Option.some.inj h
      obtain rfl := Aft.bk hk_5
      exact AW.ret (hR_0 _ (retX (.cons (.tmp rfl) .nil) (.refl _) rfl (by kernel_rfl) (by kernel_rfl)))
    · have h := ifF hb_7 h
      refine RunC.auX 5 ⟨[(2, .ptr 0 0), (3, .ptr 1 0), (31, .d (.bool (decide (r1_1 ≠ r1_1_1))))], [(1, .var 26 [.d (I (n 0)), .d (I (n 1))]), (0, .var 25 (cv25 b))], 2, Fr.emp, [], 0⟩ (by kernel_rfl) ?_
      refine r_split 31 rfl (fun hb_8 => ?_) (fun hb_8 => ?_)
      · have h := ifT hb_8 h
        refine RunC.auX 6 ⟨[(2, .ptr 0 0), (3, .ptr 1 0), (37, .d (.bool true))], [(1, .var 26 [.d (I (n 0)), .d (I (n 1))]), (0, .var 25 (cv25 b))], 2, Fr.emp, [], 0⟩ (by kernel_rfl) ?_
        refine RunC.fin ⟨[(2, .ptr 0 0), (3, .ptr 1 0), (37, .d (.bool true))], [(1, .var 26 [.d (I (n 0)), .d (I (n 1))]), (0, .var 25 (cv25 b))], 2, Fr.emp, [], 0⟩ (by kernel_rfl) (by kernel_rfl) ?_
        refine hQ_6 _ ?_
        refine AW.condT rfl ?_
        refine AW.sa fokW [] ⟨[(4, .d (.bool false))], [], 2, Fr.emp, [], 0⟩ (by kernel_rfl) ?_
        obtain rfl := Option.some.inj h
        obtain rfl := Aft.bk hk_5
        exact AW.ret (hR_0 _ (retX (.cons (.tmp rfl) .nil) (.refl _) rfl (by kernel_rfl) (by kernel_rfl)))
      · have h := ifF hb_8 h
        refine RunC.auX 1 ⟨[(2, .ptr 0 0), (3, .ptr 1 0), (31, .d (.bool false)), (32, .agg [.d (I b.Kind), .d (I b.Front), .d (I b.Back), .d (I b.Radius), .d (.sl 4 (List.map e70 b.Parts)), .d (I b.Along), .d (I b.High), .d (I b.Lean_), .d (I b.Limit), .d (.sl 3 (List.map e65 b.Trials))])], [(1, .var 26 [.d (I (n 0)), .d (I (n 1))]), (0, .var 25 (cv25 b))], 2, Fr.emp, [], 0⟩ (by kernel_rfl) ?_
        obtain ⟨A1, hx_9, h⟩ := bsome h
        refine r_call rfl rfl (k18 b _ hx_9) rfl rfl ?_
        refine RunC.auX 1 ⟨[(2, .ptr 0 0), (3, .ptr 1 0), (31, .d (.bool false)), (33, .d (I A1)), (34, .agg [.d (I b.Kind), .d (I b.Front), .d (I b.Back), .d (I b.Radius), .d (.sl 4 (List.map e70 b.Parts)), .d (I b.Along), .d (I b.High), .d (I b.Lean_), .d (I b.Limit), .d (.sl 3 (List.map e65 b.Trials))])], [(1, .var 26 [.d (I (n 0)), .d (I (n 1))]), (0, .var 25 (cv25 b))], 2, Fr.emp, [], 0⟩ (by kernel_rfl) ?_
        obtain ⟨r0_10, hx_10, h⟩ := bsome h
        refine r_call rfl rfl (k19 b _ hx_10) rfl rfl ?_
        refine RunC.auX 2 ⟨[(2, .ptr 0 0), (3, .ptr 1 0), (37, .d (.bool (decide (A1 ≠ r0_10))))], [(1, .var 26 [.d (I (n 0)), .d (I (n 1))]), (0, .var 25 (cv25 b))], 2, Fr.emp, [], 0⟩ (by kernel_rfl) ?_
        refine RunC.fin ⟨[(2, .ptr 0 0), (3, .ptr 1 0), (37, .d (.bool (decide (A1 ≠ r0_10))))], [(1, .var 26 [.d (I (n 0)), .d (I (n 1))]), (0, .var 25 (cv25 b))], 2, Fr.emp, [], 0⟩ (by kernel_rfl) (by kernel_rfl) ?_
        refine hQ_6 _ ?_
        refine AW.cond rfl (fun hb_11 => ?_) (fun hb_11 => ?_)
        · have h := ifT hb_11 h
          refine AW.sa fokW [] ⟨[(4, .d (.bool false))], [], 2, Fr.emp, [], 0⟩ (by kernel_rfl) ?_
          obtain rfl := Option.some.inj h
          obtain rfl := Aft.bk hk_5
          exact AW.ret (hR_0 _ (retX (.cons (.tmp rfl) .nil) (.refl _) rfl (by kernel_rfl) (by kernel_rfl)))
        · have h := ifF hb_11 h
          refine AW.skip ?_
          obtain rfl := Option.some.inj h
          exact hK_5 _ _ rfl (Can.kp (by kernel_rfl))
  · subst hj_5
    have h := Aft.nx hk_5
    refine AW.srwK (fun Q_12 hQ_12 => ?_)
    refine RW.au fokW 5 [] ⟨[(2, .ptr 0 0), (3, .ptr 1 0), (39, .agg [.d (I b.Kind), .d (I b.Front), .d (I b.Back), .d (I b.Radius), .d (.sl 4 (List.map e70 b.Parts)), .d (I b.Along), .d (I b.High), .d (I b.Lean_), .d (I b.Limit), .d (.sl 3 (List.map e65 b.Trials))]), (41, .d (I (n 0))), (43, .d (I (n 1)))], [(1, .var 26 [.d (I (n 0)), .d (I (n 1))]), (0, .var 25 (cv25 b))], 2, Fr.emp, [], 0⟩ (by kernel_rfl) ?_
    obtain ⟨⟨r0_6, r1_6⟩, hx_13, h⟩ := bsome h
    refine RW.one fokW (r_call trivial rfl (k20 b (n 0) (n 1) _ hx_13) rfl rfl (r_end ?_))
    refine RW.au fokW 5 [] ⟨[(2, .ptr 0 0), (3, .ptr 1 0), (6, .d (I r1_6)), (9, .d (I r0_6))], [(1, .var 26 [.d (I (n 0)), .d (I (n 1))]), (0, .var 25 (cv25 b))], 2, Fr.emp, [], 0⟩ (by kernel_rfl) ?_
    refine RW.nil ?_
    refine hQ_12 _ ?_
    refine AW.srwK (fun Q_14 hQ_14 => ?_)
    refine RW.au fokW 5 [] ⟨[(2, .ptr 0 0), (3, .ptr 1 0), (6, .d (I r1_6)), (9, .d (I r0_6)), (48, .agg [.d (I b.Kind), .d (I b.Front), .d (I b.Back), .d (I b.Radius), .d (.sl 4 (List.map e70 b.Parts)), .d (I b.Along), .d (I b.High), .d (I b.Lean_), .d (I b.Limit), .d (.sl 3 (List.map e65 b.Trials))]), (50, .d (I (n 0))), (52, .d (I (n 1)))], [(1, .var 26 [.d (I (n 0)), .d (I (n 1))]), (0, .var 25 (cv25 b))], 2, Fr.emp, [], 0⟩ (by kernel_rfl) ?_
    obtain ⟨⟨r0_6_1, r1_4⟩, hx_15, h⟩ := bsome h
    refine RW.one fokW (r_call trivial rfl (k21 b (n 0) (n 1) _ hx_15) rfl rfl (r_end ?_))
    refine RW.au fokW 5 [] ⟨[(2, .ptr 0 0), (3, .ptr 1 0), (6, .d (I r1_6)), (8, .d (I r1_4)), (9, .d (I r0_6)), (10, .d (I r0_6_1))], [(1, .var 26 [.d (I (n 0)), .d (I (n 1))]), (0, .var 25 (cv25 b))], 2, Fr.emp, [], 0⟩ (by kernel_rfl) ?_
    refine RW.nil ?_
    refine hQ_14 _ ?_
    refine AW.seqK (fun K_16 hK_16 => ?_)
    refine AW.sa fokW [59] ⟨[(2, .ptr 0 0), (3, .ptr 1 0), (63, .d (.bool ((decide (r0_6 ≠ r0_6_1)) || (decide (r1_6 ≠ r1_4)))))], [(1, .var 26 [.d (I (n 0)), .d (I (n 1))]), (0, .var 25 (cv25 b))], 2, Fr.emp, [], 0⟩ (by kernel_rfl) ?_
    refine AW.cond rfl (fun hb_17 => ?_) (fun hb_17 => ?_)
    · have h := ifT hb_17 h
      refine AW.sa fokW [] ⟨[(4, .d (.bool false))], [], 2, Fr.emp, [], 0⟩ (by kernel_rfl) ?_
      obtain rfl := Option.some.inj h
      exact AW.ret (hR_0 _ (retX (.cons (.tmp rfl) .nil) (.refl _) rfl (by kernel_rfl) (by kernel_rfl)))
    · have h := ifF hb_17 h
      refine AW.skip ?_
      refine hK_16 _ ?_
      refine AW.srwK (fun Q_18 hQ_18 => ?_)
      refine RW.au fokW 5 [] ⟨[(2, .ptr 0 0), (3, .ptr 1 0), (65, .agg [.d (I b.Kind), .d (I b.Front), .d (I b.Back), .d (I b.Radius), .d (.sl 4 (List.map e70 b.Parts)), .d (I b.Along), .d (I b.High), .d (I b.Lean_), .d (I b.Limit), .d (.sl 3 (List.map e65 b.Trials))]), (67, .d (I (n 0))), (69, .d (I (n 1)))], [(1, .var 26 [.d (I (n 0)), .d (I (n 1))]), (0, .var 25 (cv25 b))], 2, Fr.emp, [], 0⟩ (by kernel_rfl) ?_
      obtain ⟨⟨r0_3, r1_4_1⟩, hx_19, h⟩ := bsome h
      refine RW.one fokW (r_call trivial rfl (k22 b (n 0) (n 1) _ hx_19) rfl rfl (r_end ?_))
      refine RW.au fokW 6 [] ⟨[(2, .ptr 0 0), (3, .ptr 1 0), (6, .d (I r1_4_1)), (11, .ptr 2 0)], [(2, .var 34 [.d (I r0_3.Top), .d (I r0_3.Bottom)]), (1, .var 26 [.d (I (n 0)), .d (I (n 1))]), (0, .var 25 (cv25 b))], 3, Fr.emp, [], 0⟩ (by kernel_rfl) ?_
      refine RW.nil ?_
      refine hQ_18 _ ?_
      refine AW.srwK (fun Q_20 hQ_20 => ?_)
      refine RW.au fokW 5 [] ⟨[(6, .d (I r1_4_1)), (11, .ptr 2 0), (74, .agg [.d (I b.Kind), .d (I b.Front), .d (I b.Back), .d (I b.Radius), .d (.sl 4 (List.map e70 b.Parts)), .d (I b.Along), .d (I b.High), .d (I b.Lean_), .d (I b.Limit), .d (.sl 3 (List.map e65 b.Trials))]), (76, .d (I (n 0))), (78, .d (I (n 1)))], [(2, .var 34 [.d (I r0_3.Top), .d (I r0_3.Bottom)])], 3, Fr.emp, [], 0⟩ (by kernel_rfl) ?_
      obtain ⟨⟨r0_3_1, r1_2⟩, hx_21, h⟩ := bsome h
      refine RW.one fokW (r_call trivial rfl (k23 b (n 0) (n 1) _ hx_21) rfl rfl (r_end ?_))
      refine RW.au fokW 6 [] ⟨[(6, .d (I r1_4_1)), (8, .d (I r1_2)), (11, .ptr 2 0), (12, .ptr 3 0)], [(3, .var 34 [.d (I r0_3_1.Top), .d (I r0_3_1.Bottom)]), (2, .var 34 [.d (I r0_3.Top), .d (I r0_3.Bottom)])], 4, Fr.emp, [], 0⟩ (by kernel_rfl) ?_
      refine RW.nil ?_
      refine hQ_20 _ ?_
      refine AW.srwK (fun Q_22 hQ_22 => ?_)
      refine RW.au fokW 2 [] ⟨[(6, .d (I r1_4_1)), (8, .d (I r1_2)), (82, .agg [.d (I r0_3.Top), .d (I r0_3.Bottom)]), (83, .agg [.d (I r0_3_1.Top), .d (I r0_3_1.Bottom)])], [], 4, Fr.emp, [], 0⟩ (by kernel_rfl) ?_
      refine RW.one fokW (r_aeq trivial rfl rfl rfl rfl ft34 rfl rfl rfl (r_end ?_))
      refine RW.au fokW 6 [85] ⟨[(90, .d (.bool ((false != ((r0_3.Top == r0_3_1.Top) && ((r0_3.Bottom == r0_3_1.Bottom) && true))) && (decide (r1_4_1 = r1_2)))))], [], 4, Fr.emp, [], 0⟩ (by kernel_rfl) ?_
      obtain ⟨v, hx_23, h⟩ := bsome h
      refine RW.cut fokW 2 (⟨[(92, .d (.bool v))], [], 0, Fr.emp, [], 0⟩) ?_ ?_
      · refine r_split 90 rfl (fun hb_25 => ?_) (fun hb_25 => ?_)
        · have h := ifT hb_25 hx_23
          obtain ⟨t2, hx_24, h⟩ := bsome h
          refine r_call rfl rfl (k24 _ hx_24) rfl rfl ?_
          refine RunC.auX 1 ⟨[(92, .d (.bool t2))], [], 4, Fr.emp, [], 0⟩ (by kernel_rfl) ?_
          obtain rfl := Option.some.inj h
          refine RunC.finJ (Can.kp (by kernel_rfl))
        · have h := ifF hb_25 hx_23
          refine RunC.auX 2 ⟨[(92, .d (.bool false))], [], 4, Fr.emp, [], 0⟩ (by kernel_rfl) ?_
          obtain rfl := Option.some.inj h
          refine RunC.finJ (Can.kp (by kernel_rfl))
      · refine RW.au fokW 1 [] ⟨[(4, .d (.bool v))], [], 0, Fr.emp, [], 0⟩ (by kernel_rfl) ?_
        refine RW.nil ?_
        refine hQ_22 _ ?_
        obtain rfl := Option.some.inj h
        exact AW.ret (hR_0 _ (retX (.cons (.tmp rfl) .nil) (.refl _) rfl (by kernel_rfl) (by kernel_rfl)))
end Go.Proofs.Tz
