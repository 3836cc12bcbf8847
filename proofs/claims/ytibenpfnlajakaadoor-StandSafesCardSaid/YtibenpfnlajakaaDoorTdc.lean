/- Told functions, and that the program does so, part 3. Conditions: none. -/
import Derived.Test.YtibenpfnlajakaaDoorTdb
set_option linter.unusedVariables false
set_option linter.unusedSimpArgs false
namespace Go.Proofs.Tz
open Go Go.Abs Go.Proofs
def g37_4 (l : (List Int)) (m : (List Int)) : (Bool × Int) → Option (Ctl (Bool × Int) (Bool)) := fun  (is2, i) => (bif is2 then (some (decide (i < (l.length : Int)))) else (some false)).bind fun v => bif v then ((ixL l i).bind fun p => (ixL m i).bind fun p1 => some (.next ((decide (p = p1)), (wr (i + 1))))) else (some (.brk is2))
def g37 (l : (List Int)) (m : (List Int)) : Option Bool := ((whileC (g37_4 l m) 1000 ((decide ((l.length : Int) = (m.length : Int))), 0)).bind fun is1 => some is1).bind fun is => some is
theorem k37 (l : (List Int)) (m : (List Int)) (r : Bool) (h : g37 l m = some r) : SCall Tryd.prog Gs 37 [.d (.sl 1 (List.map e3 l)), .d (.sl 1 (List.map e3 m))] [] 0 Fr.emp (.d (.bool r)) [] 0 Fr.emp := by
  unfold g37 at h
  refine SCall.mkK Tryd.func37 c37 rfl rfl (by kernel_rfl) (fun Q_0 hR_0 hN_0 => ?_)
  refine AW.sa fokW [] ⟨[(0, .d (.sl 1 (List.map e3 l))), (1, .d (.sl 1 (List.map e3 m)))], [], 0, Fr.emp, [], 0⟩ (by kernel_rfl) ?_
  refine AW.srwK (fun Q_1 hQ_1 => ?_)
  refine RW.au fokW 1 [] ⟨[(0, .d (.sl 1 (List.map e3 l))), (1, .d (.sl 1 (List.map e3 m))), (7, .d (.sl 1 (List.map e3 l)))], [], 0, Fr.emp, [], 0⟩ (by kernel_rfl) ?_
  refine RW.one fokW (r_lenX trivial rfl lenm (r_end ?_))
  refine RW.au fokW 1 [] ⟨[(0, .d (.sl 1 (List.map e3 l))), (1, .d (.sl 1 (List.map e3 m))), (8, .d (I (l.length : Int))), (9, .d (.sl 1 (List.map e3 m)))], [], 0, Fr.emp, [], 0⟩ (by kernel_rfl) ?_
  refine RW.one fokW (r_lenX trivial rfl lenm (r_end ?_))
  refine RW.au fokW 2 [] ⟨[(0, .d (.sl 1 (List.map e3 l))), (1, .d (.sl 1 (List.map e3 m))), (5, .d (.bool (decide ((l.length : Int) = (m.length : Int)))))], [], 0, Fr.emp, [], 0⟩ (by kernel_rfl) ?_
  refine RW.nil ?_
  refine hQ_1 _ ?_
  obtain ⟨is, hx_2, h⟩ := bsome h
  refine AW.jnSK (fun (is : Bool) => ⟨[(5, .d (.bool is))], [], 0, Fr.emp, [], 0⟩) (c := is) (fun K_2 hK_2 => ?_) ?_
  · have h := hx_2
    refine AW.sa fokW [] ⟨[(0, .d (.sl 1 (List.map e3 l))), (1, .d (.sl 1 (List.map e3 m))), (5, .d (.bool (decide ((l.length : Int) = (m.length : Int))))), (6, .d (I 0))], [], 0, Fr.emp, [], 0⟩ (by kernel_rfl) ?_
    obtain ⟨is1, hx_3, h⟩ := bsome h
    refine AW.jqSK (fun (is1 : Bool) => ⟨[(5, .d (.bool is1))], [], 0, Fr.emp, [], 0⟩) (c := is1) (fun K_3 hK_3 => ?_) ?_
    · have h := hx_3
      refine AW.block ?_
      refine AW.whK (fun (⟨is2, i⟩ : Bool × Int) => ⟨[(0, .d (.sl 1 (List.map e3 l))), (1, .d (.sl 1 (List.map e3 m))), (5, .d (.bool is2)), (6, .d (I i))], [], 0, Fr.emp, [], 0⟩) (g37_4 l m) h (Can.kp (by kernel_rfl)) (fun s_4 c_4 h hb_4 K_4 hK_4 => ?_)
      obtain ⟨is2, i⟩ := s_4
      unfold g37_4 at h
      refine AW.seqK (fun K_5 hK_5 => ?_)
      refine AW.srwK (fun Q_6 hQ_6 => ?_)
      refine RW.au fokW 2 [] ⟨[(0, .d (.sl 1 (List.map e3 l))), (1, .d (.sl 1 (List.map e3 m))), (5, .d (.bool is2)), (6, .d (I i)), (13, .d (.bool is2))], [], 0, Fr.emp, [], 0⟩ (by kernel_rfl) ?_
      obtain ⟨v, hx_7, h⟩ := bsome h
      refine RW.cut fokW 5 (⟨[(0, .d (.sl 1 (List.map e3 l))), (1, .d (.sl 1 (List.map e3 m))), (5, .d (.bool is2)), (6, .d (I i)), (18, .d (.bool v))], [], 0, Fr.emp, [], 0⟩) ?_ ?_
      · refine r_split 13 rfl (fun hb_8 => ?_) (fun hb_8 => ?_)
        · have h := ifT hb_8 hx_7
          refine RunC.auX 2 ⟨[(0, .d (.sl 1 (List.map e3 l))), (1, .d (.sl 1 (List.map e3 m))), (5, .d (.bool is2)), (6, .d (I i)), (13, .d (.bool true)), (14, .d (I i)), (15, .d (.sl 1 (List.map e3 l)))], [], 0, Fr.emp, [], 0⟩ (by kernel_rfl) ?_
          refine r_lenX rfl rfl lenm ?_
          refine RunC.auX 2 ⟨[(0, .d (.sl 1 (List.map e3 l))), (1, .d (.sl 1 (List.map e3 m))), (5, .d (.bool is2)), (6, .d (I i)), (14, .d (I i)), (15, .d (.sl 1 (List.map e3 l))), (16, .d (I (l.length : Int))), (17, .d (.bool (decide (i < (l.length : Int))))), (18, .d (.bool (decide (i < (l.length : Int)))))], [], 0, Fr.emp, [], 0⟩ (by kernel_rfl) ?_
          obtain rfl := Option.some.inj h
          refine RunC.finJ (Can.kp (by kernel_rfl))
        · have h := ifF hb_8 hx_7
          refine RunC.auX 5 ⟨[(0, .d (.sl 1 (List.map e3 l))), (1, .d (.sl 1 (List.map e3 m))), (5, .d (.bool is2)), (6, .d (I i)), (14, .undef), (15, .undef), (16, .undef), (17, .undef), (18, .d (.bool false))], [], 0, Fr.emp, [], 0⟩ (by kernel_rfl) ?_
          obtain rfl := Option.some.inj h
          refine RunC.finJ (Can.kp (by kernel_rfl))
      · refine RW.nil ?_
        refine hQ_6 _ ?_
        refine AW.cond rfl (fun hb_9 => ?_) (fun hb_9 => ?_)
        · have h := ifT hb_9 h
          refine AW.skip ?_
          refine hK_5 _ ?_
          refine AW.seqK (fun K_10 hK_10 => ?_)
          refine AW.block ?_
          refine AW.drw fokW ?_
          refine RunC.auX 2 ⟨[(0, .d (.sl 1 (List.map e3 l))), (1, .d (.sl 1 (List.map e3 m))), (6, .d (I i)), (21, .d (.sl 1 (List.map e3 l))), (22, .d (I i))], [], 0, Fr.emp, [], 0⟩ (by kernel_rfl) ?_
          obtain ⟨p, hv_12, h⟩ := bsome h
          refine r_iaD trivial rfl rfl (ixL_ok hv_12).1 (row := e3 p) (mapget (ixL_ok hv_12).2) ?_
          refine RunC.auX 3 ⟨[(0, .d (.sl 1 (List.map e3 l))), (1, .d (.sl 1 (List.map e3 m))), (6, .d (I i)), (24, .d (I p)), (25, .d (.sl 1 (List.map e3 m))), (26, .d (I i))], [], 0, Fr.emp, [], 0⟩ (by kernel_rfl) ?_
          obtain ⟨p1, hv_13, h⟩ := bsome h
          refine r_iaD trivial rfl rfl (ixL_ok hv_13).1 (row := e3 p1) (mapget (ixL_ok hv_13).2) ?_
          refine RunC.auX 3 ⟨[(0, .d (.sl 1 (List.map e3 l))), (1, .d (.sl 1 (List.map e3 m))), (5, .d (.bool (decide (p = p1)))), (6, .d (I i))], [], 0, Fr.emp, [], 0⟩ (by kernel_rfl) ?_
          refine RunC.fin ⟨[(0, .d (.sl 1 (List.map e3 l))), (1, .d (.sl 1 (List.map e3 m))), (5, .d (.bool (decide (p = p1)))), (6, .d (I i))], [], 0, Fr.emp, [], 0⟩ (by kernel_rfl) (by kernel_rfl) ?_
          refine hK_10 _ ?_
          refine AW.ra fokW [] ⟨[(0, .d (.sl 1 (List.map e3 l))), (1, .d (.sl 1 (List.map e3 m))), (5, .d (.bool (decide (p = p1)))), (6, .d (I (wr (i + 1))))], [], 0, Fr.emp, [], 0⟩ (by kernel_rfl) ?_
          obtain rfl := Option.some.inj h
          exact hK_4 _ _ rfl (Can.kp (by kernel_rfl))
        · have h := ifF hb_9 h
          refine AW.exit ?_
          obtain rfl := Option.some.inj h
          obtain rfl := hb_4 _ rfl
          exact hK_3 _ (Can.kp (by kernel_rfl))
    · obtain rfl := Option.some.inj h
      exact hK_2 _ (Can.kp (by kernel_rfl))
  · refine AW.sa fokW [] ⟨[(4, .d (.bool is))], [], 0, Fr.emp, [], 0⟩ (by kernel_rfl) ?_
    obtain rfl := Option.some.inj h
    exact AW.ret (hR_0 _ (retX (.cons (.tmp rfl) .nil) (.refl _) rfl (by kernel_rfl) (by kernel_rfl)))
def g24  : Option Bool := (g55).bind fun r0 => (g20 r0 20 (-8)).bind fun (r0_6, r1_6) => (g55).bind fun r0_1 => (g22 r0_1 10 (-8)).bind fun (r0_3, r1_4) => (g59).bind fun r0_1_1 => (g27 r0_1_1).bind fun (r0_4, r1_5) => (g55).bind fun r0_2 => (g29 r0_2 20).bind fun (r0_4_1, r1_5_1) => (g55).bind fun r0_5 => (g31 r0_5 10).bind fun (r0_5_1, r1_5_2) => bindC ((bif (decide (r1_6 ≠ 0)) then (some true) else (bif (decide (r1_4 ≠ 0)) then (some true) else (bif (decide (r1_5 ≠ 0)) then (some true) else (bif (decide (r1_5_1 ≠ 0)) then (some true) else (bif (decide (r1_5_2 ≠ 0)) then (some true) else (bif (decide (r0_6 ≠ 1)) then (some true) else ((g60 38 17).bind fun r0_7 => bif (true != ((r0_3.Top == r0_7.Top) && ((r0_3.Bottom == r0_7.Bottom) && true))) then (some true) else (bif (decide (r0_4 ≠ 22)) then (some true) else ((g46 (-7) 8).bind fun r0_8 => bif (true != ((r0_4_1.Low == r0_8.Low) && ((r0_4_1.High == r0_8.High) && true))) then (some true) else (some (decide (r0_5_1 ≠ 6)))))))))))).bind fun v => bif v then (some (.brk false)) else (some (.next ())) : Option (Ctl (Unit) (Bool))) fun _ => (g55).bind fun r0_9 => (g33 r0_9).bind fun (r0_4_2, r1_5_3) => (g58).bind fun r0_3_1 => (g35 r0_3_1).bind fun (r0_2_1, r1_2) => (g55).bind fun r0_10 => (g25 r0_10 19).bind fun (r0_4_3, r1_4_1) => (g55).bind fun r0_11 => (g16 r0_11).bind fun (r0_1_2, r1_1) => (g56).bind fun r0_1_3 => (g22 r0_1_3 30 (-8)).bind fun (r0_3_2, r1_4_2) => (bif (decide (r1_5_3 = 0)) then (bif (decide (r1_2 = 0)) then (bif (decide (r1_4_1 = 0)) then (bif (decide (r1_1 = 0)) then (bif (decide (r1_4_2 = 0)) then (bif (decide (r0_4_2 = 2)) then ((g37 r0_2_1 [0]).bind fun r0_12 => bif r0_12 then (bif r0_4_3 then (bif r0_1_2 then ((g60 (-200) 9).bind fun r0_13 => some (false != ((r0_3_2.Top == r0_13.Top) && ((r0_3_2.Bottom == r0_13.Bottom) && true)))) else (some false)) else (some false)) else (some false)) else (some false)) else (some false)) else (some false)) else (some false)) else (some false)) else (some false)).bind fun t => some t
theorem k24  (r : Bool) (h : g24 = some r) : SCall Tryd.prog Gs 24 [] [] 0 Fr.emp (.d (.bool r)) [] 0 Fr.emp := by
  unfold g24 at h
  refine SCall.mkK Tryd.func24 c24 rfl rfl (by kernel_rfl) (fun Q_0 hR_0 hN_0 => ?_)
  refine AW.sa fokW [] ⟨[], [], 0, Fr.emp, [], 0⟩ (by kernel_rfl) ?_
  refine AW.srwK (fun Q_1 hQ_1 => ?_)
  obtain ⟨r0, hx_2, h⟩ := bsome h
  refine RW.one fokW (r_call trivial rfl (k55 _ hx_2) rfl rfl (r_end ?_))
  obtain ⟨⟨r0_6, r1_6⟩, hx_3, h⟩ := bsome h
  refine RW.one fokW (r_call trivial rfl (k20 r0 20 (-8) _ hx_3) rfl rfl (r_end ?_))
  refine RW.au fokW 5 [] ⟨[(1, .d (I r0_6)), (2, .d (I r1_6))], [], 0, Fr.emp, [], 0⟩ (by kernel_rfl) ?_
  refine RW.nil ?_
  refine hQ_1 _ ?_
  refine AW.srwK (fun Q_4 hQ_4 => ?_)
  obtain ⟨r0_1, hx_5, h⟩ := bsome h
  refine RW.one fokW (r_call trivial rfl (k55 _ hx_5) rfl rfl (r_end ?_))
  obtain ⟨⟨r0_3, r1_4⟩, hx_6, h⟩ := bsome h
  refine RW.one fokW (r_call trivial rfl (k22 r0_1 10 (-8) _ hx_6) rfl rfl (r_end ?_))
  refine RW.au fokW 6 [] ⟨[(1, .d (I r0_6)), (2, .d (I r1_6)), (3, .ptr 0 0), (4, .d (I r1_4))], [(0, .var 34 [.d (I r0_3.Top), .d (I r0_3.Bottom)])], 1, Fr.emp, [], 0⟩ (by kernel_rfl) ?_
  refine RW.nil ?_
  refine hQ_4 _ ?_
  refine AW.srwK (fun Q_7 hQ_7 => ?_)
  obtain ⟨r0_1_1, hx_8, h⟩ := bsome h
  refine RW.one fokW (r_call trivial rfl (k59 _ hx_8) rfl rfl (r_end ?_))
  obtain ⟨⟨r0_4, r1_5⟩, hx_9, h⟩ := bsome h
  refine RW.one fokW (r_call trivial rfl (k27 r0_1_1 _ hx_9) rfl rfl (r_end ?_))
  refine RW.au fokW 5 [] ⟨[(1, .d (I r0_6)), (2, .d (I r1_6)), (3, .ptr 0 0), (4, .d (I r1_4)), (5, .d (I r0_4)), (6, .d (I r1_5))], [(0, .var 34 [.d (I r0_3.Top), .d (I r0_3.Bottom)])], 1, Fr.emp, [], 0⟩ (by kernel_rfl) ?_
  refine RW.nil ?_
  refine hQ_7 _ ?_
  refine AW.srwK (fun Q_10 hQ_10 => ?_)
  obtain ⟨r0_2, hx_11, h⟩ := bsome h
  refine RW.one fokW (r_call trivial rfl (k55 _ hx_11) rfl rfl (r_end ?_))
  obtain ⟨⟨r0_4_1, r1_5_1⟩, hx_12, h⟩ := bsome h
  refine RW.one fokW (r_call trivial rfl (k29 r0_2 20 _ hx_12) rfl rfl (r_end ?_))
  refine RW.au fokW 6 [] ⟨[(1, .d (I r0_6)), (2, .d (I r1_6)), (3, .ptr 0 0), (4, .d (I r1_4)), (5, .d (I r0_4)), (6, .d (I r1_5)), (7, .ptr 1 0), (8, .d (I r1_5_1))], [(1, .var 42 [.d (I r0_4_1.Low), .d (I r0_4_1.High)]), (0, .var 34 [.d (I r0_3.Top), .d (I r0_3.Bottom)])], 2, Fr.emp, [], 0⟩ (by kernel_rfl) ?_
  refine RW.nil ?_
  refine hQ_10 _ ?_
  refine AW.srwK (fun Q_13 hQ_13 => ?_)
  obtain ⟨r0_5, hx_14, h⟩ := bsome h
  refine RW.one fokW (r_call trivial rfl (k55 _ hx_14) rfl rfl (r_end ?_))
  obtain ⟨⟨r0_5_1, r1_5_2⟩, hx_15, h⟩ := bsome h
  refine RW.one fokW (r_call trivial rfl (k31 r0_5 10 _ hx_15) rfl rfl (r_end ?_))
  refine RW.au fokW 5 [] ⟨[(1, .d (I r0_6)), (2, .d (I r1_6)), (3, .ptr 0 0), (4, .d (I r1_4)), (5, .d (I r0_4)), (6, .d (I r1_5)), (7, .ptr 1 0), (8, .d (I r1_5_1)), (9, .d (I r0_5_1)), (10, .d (I r1_5_2))], [(1, .var 42 [.d (I r0_4_1.Low), .d (I r0_4_1.High)]), (0, .var 34 [.d (I r0_3.Top), .d (I r0_3.Bottom)])], 2, Fr.emp, [], 0⟩ (by kernel_rfl) ?_
  refine RW.nil ?_
  refine hQ_13 _ ?_
  obtain ⟨c_16, hx_16, hk_16⟩ := bsomeC h
  refine AW.jnK (fun (_ : Unit) => ⟨[], [], 0, Fr.emp, [], 0⟩) (c := c_16) (fun K_16 hK_16 => ?_) (fun j_16 hj_16 => ?_)
  · have h := hx_16
    obtain ⟨v, hx_17, h⟩ := bsome h
    refine AW.jnSK (fun (v : Bool) => ⟨[(80, .d (.bool v))], [], 0, Fr.emp, [], 0⟩) (c := v) (fun K_17 hK_17 => ?_) ?_
    · have h := hx_17
      refine AW.drw fokW ?_
      refine RunC.auX 3 ⟨[(1, .d (I r0_6)), (3, .ptr 0 0), (4, .d (I r1_4)), (5, .d (I r0_4)), (6, .d (I r1_5)), (7, .ptr 1 0), (8, .d (I r1_5_1)), (9, .d (I r0_5_1)), (10, .d (I r1_5_2)), (43, .d (.bool (decide (r1_6 ≠ 0))))], [(1, .var 42 [.d (I r0_4_1.Low), .d (I r0_4_1.High)]), (0, .var 34 [.d (I r0_3.Top), .d (I r0_3.Bottom)])], 2, Fr.emp, [], 0⟩ (by kernel_rfl) ?_
      refine r_split 43 rfl (fun hb_19 => ?_) (fun hb_19 => ?_)
      · have h := ifT hb_19 h
        refine RunC.auX 37 ⟨[(80, .d (.bool true))], [(1, .var 42 [.d (I r0_4_1.Low), .d (I r0_4_1.High)]), (0, .var 34 [.d (I r0_3.Top), .d (I r0_3.Bottom)])], 2, Fr.emp, [], 0⟩ (by kernel_rfl) ?_
        refine RunC.fin ⟨[(80, .d (.bool true))], [], 2, Fr.emp, [], 0⟩ (by kernel_rfl) (by kernel_rfl) ?_
        obtain rfl := Option.some.inj h
        exact hK_17 _ (Can.kp (by kernel_rfl))
      · have h := ifF hb_19 h
        refine RunC.auX 4 ⟨[(1, .d (I r0_6)), (3, .ptr 0 0), (5, .d (I r0_4)), (6, .d (I r1_5)), (7, .ptr 1 0), (8, .d (I r1_5_1)), (9, .d (I r0_5_1)), (10, .d (I r1_5_2)), (47, .d (.bool (decide (r1_4 ≠ 0))))], [(1, .var 42 [.d (I r0_4_1.Low), .d (I r0_4_1.High)]), (0, .var 34 [.d (I r0_3.Top), .d (I r0_3.Bottom)])], 2, Fr.emp, [], 0⟩ (by kernel_rfl) ?_
        refine r_split 47 rfl (fun hb_20 => ?_) (fun hb_20 => ?_)
        · have h := ifT hb_20 h
          refine RunC.auX 33 ⟨[(80, .d (.bool true))], [(1, .var 42 [.d (I r0_4_1.Low), .d (I r0_4_1.High)]), (0, .var 34 [.d (I r0_3.Top), .d (I r0_3.Bottom)])], 2, Fr.emp, [], 0⟩ (by kernel_rfl) ?_
          refine RunC.fin ⟨[(80, .d (.bool true))], [], 2, Fr.emp, [], 0⟩ (by kernel_rfl) (by kernel_rfl) ?_
          obtain rfl := Option.some.inj h
          exact hK_17 _ (Can.kp (by kernel_rfl))
        · have h := ifF hb_20 h
          refine RunC.auX 4 ⟨[(1, .d (I r0_6)), (3, .ptr 0 0), (5, .d (I r0_4)), (7, .ptr 1 0), (8, .d (I r1_5_1)), (9, .d (I r0_5_1)), (10, .d (I r1_5_2)), (51, .d (.bool (decide (r1_5 ≠ 0))))], [(1, .var 42 [.d (I r0_4_1.Low), .d (I r0_4_1.High)]), (0, .var 34 [.d (I r0_3.Top), .d (I r0_3.Bottom)])], 2, Fr.emp, [], 0⟩ (by kernel_rfl) ?_
          refine r_split 51 rfl (fun hb_21 => ?_) (fun hb_21 => ?_)
          · have h := ifT hb_21 h
            refine RunC.auX 29 ⟨[(80, .d (.bool true))], [(1, .var 42 [.d (I r0_4_1.Low), .d (I r0_4_1.High)]), (0, .var 34 [.d (I r0_3.Top), .d (I r0_3.Bottom)])], 2, Fr.emp, [], 0⟩ (by kernel_rfl) ?_
            refine RunC.fin ⟨[(80, .d (.bool true))], [], 2, Fr.emp, [], 0⟩ (by kernel_rfl) (by kernel_rfl) ?_
            obtain rfl := Option.some.inj h
            exact hK_17 _ (Can.kp (by kernel_rfl))
          · have h := ifF hb_21 h
            refine RunC.auX 4 ⟨[(1, .d (I r0_6)), (3, .ptr 0 0), (5, .d (I r0_4)), (7, .ptr 1 0), (9, .d (I r0_5_1)), (10, .d (I r1_5_2)), (55, .d (.bool (decide (r1_5_1 ≠ 0))))], [(1, .var 42 [.d (I r0_4_1.Low), .d (I r0_4_1.High)]), (0, .var 34 [.d (I r0_3.Top), .d (I r0_3.Bottom)])], 2, Fr.emp, [], 0⟩ (by kernel_rfl) ?_
            refine r_split 55 rfl (fun hb_22 => ?_) (fun hb_22 => ?_)
            · have h := ifT hb_22 h
              refine RunC.auX 25 ⟨[(80, .d (.bool true))], [(1, .var 42 [.d (I r0_4_1.Low), .d (I r0_4_1.High)]), (0, .var 34 [.d (I r0_3.Top), .d (I r0_3.Bottom)])], 2, Fr.emp, [], 0⟩ (by kernel_rfl) ?_
              refine RunC.fin ⟨[(80, .d (.bool true))], [], 2, Fr.emp, [], 0⟩ (by kernel_rfl) (by kernel_rfl) ?_
              obtain rfl := Option.some.inj h
              exact hK_17 _ (Can.kp (by kernel_rfl))
            · have h := ifF hb_22 h
              refine RunC.auX 4 ⟨[(1, .d (I r0_6)), (3, .ptr 0 0), (5, .d (I r0_4)), (7, .ptr 1 0), (9, .d (I r0_5_1)), (59, .d (.bool (decide (r1_5_2 ≠ 0))))], [(1, .var 42 [.d (I r0_4_1.Low), .d (I r0_4_1.High)]), (0, .var 34 [.d (I r0_3.Top), .d (I r0_3.Bottom)])], 2, Fr.emp, [], 0⟩ (by kernel_rfl) ?_
              refine r_split 59 rfl (fun hb_23 => ?_) (fun hb_23 => ?_)
              · have h := ifT hb_23 h
                refine RunC.auX 21 ⟨[(80, .d (.bool true))], [(1, .var 42 [.d (I r0_4_1.Low), .d (I r0_4_1.High)]), (0, .var 34 [.d (I r0_3.Top), .d (I r0_3.Bottom)])], 2, Fr.emp, [], 0⟩ (by kernel_rfl) ?_
                refine RunC.fin ⟨[(80, .d (.bool true))], [], 2, Fr.emp, [], 0⟩ (by kernel_rfl) (by kernel_rfl) ?_
                obtain rfl := Option.some.inj h
                exact hK_17 _ (Can.kp (by kernel_rfl))
              · have h := ifF hb_23 h
                refine RunC.auX 4 ⟨[(3, .ptr 0 0), (5, .d (I r0_4)), (7, .ptr 1 0), (9, .d (I r0_5_1)), (63, .d (.bool (decide (r0_6 ≠ 1))))], [(1, .var 42 [.d (I r0_4_1.Low), .d (I r0_4_1.High)]), (0, .var 34 [.d (I r0_3.Top), .d (I r0_3.Bottom)])], 2, Fr.emp, [], 0⟩ (by kernel_rfl) ?_
                refine r_split 63 rfl (fun hb_24 => ?_) (fun hb_24 => ?_)
                · have h := ifT hb_24 h
                  refine RunC.auX 17 ⟨[(80, .d (.bool true))], [(1, .var 42 [.d (I r0_4_1.Low), .d (I r0_4_1.High)]), (0, .var 34 [.d (I r0_3.Top), .d (I r0_3.Bottom)])], 2, Fr.emp, [], 0⟩ (by kernel_rfl) ?_
                  refine RunC.fin ⟨[(80, .d (.bool true))], [], 2, Fr.emp, [], 0⟩ (by kernel_rfl) (by kernel_rfl) ?_
                  obtain rfl := Option.some.inj h
                  exact hK_17 _ (Can.kp (by kernel_rfl))
                · have h := ifF hb_24 h
                  refine RunC.auX 1 ⟨[(5, .d (I r0_4)), (7, .ptr 1 0), (9, .d (I r0_5_1)), (63, .d (.bool false)), (64, .agg [.d (I r0_3.Top), .d (I r0_3.Bottom)])], [(1, .var 42 [.d (I r0_4_1.Low), .d (I r0_4_1.High)]), (0, .var 34 [.d (I r0_3.Top), .d (I r0_3.Bottom)])], 2, Fr.emp, [], 0⟩ (by kernel_rfl) ?_
                  obtain ⟨r0_7, hx_25, h⟩ := bsome h
                  refine r_call rfl rfl (k60 38 17 _ hx_25) rfl rfl ?_
                  refine r_aeq rfl rfl rfl rfl rfl ft34 rfl rfl rfl ?_
                  refine RunC.auX 2 ⟨[(5, .d (I r0_4)), (7, .ptr 1 0), (9, .d (I r0_5_1)), (68, .d (.bool (true != ((r0_3.Top == r0_7.Top) && ((r0_3.Bottom == r0_7.Bottom) && true)))))], [(1, .var 42 [.d (I r0_4_1.Low), .d (I r0_4_1.High)]), (0, .var 34 [.d (I r0_3.Top), .d (I r0_3.Bottom)])], 2, Fr.emp, [], 0⟩ (by kernel_rfl) ?_
                  refine r_split 68 rfl (fun hb_26 => ?_) (fun hb_26 => ?_)
                  · have h := ifT hb_26 h
                    refine RunC.auX 12 ⟨[(80, .d (.bool true))], [(1, .var 42 [.d (I r0_4_1.Low), .d (I r0_4_1.High)]), (0, .var 34 [.d (I r0_3.Top), .d (I r0_3.Bottom)])], 2, Fr.emp, [], 0⟩ (by kernel_rfl) ?_
                    refine RunC.fin ⟨[(80, .d (.bool true))], [], 2, Fr.emp, [], 0⟩ (by kernel_rfl) (by kernel_rfl) ?_
                    obtain rfl := Option.some.inj h
                    exact hK_17 _ (Can.kp (by kernel_rfl))
                  · have h := ifF hb_26 h
                    refine RunC.auX 4 ⟨[(7, .ptr 1 0), (9, .d (I r0_5_1)), (72, .d (.bool (decide (r0_4 ≠ 22))))], [(1, .var 42 [.d (I r0_4_1.Low), .d (I r0_4_1.High)]), (0, .var 34 [.d (I r0_3.Top), .d (I r0_3.Bottom)])], 2, Fr.emp, [], 0⟩ (by kernel_rfl) ?_
                    refine r_split 72 rfl (fun hb_27 => ?_) (fun hb_27 => ?_)
                    · have h := ifT hb_27 h
                      refine RunC.auX 8 ⟨[(80, .d (.bool true))], [(1, .var 42 [.d (I r0_4_1.Low), .d (I r0_4_1.High)]), (0, .var 34 [.d (I r0_3.Top), .d (I r0_3.Bottom)])], 2, Fr.emp, [], 0⟩ (by kernel_rfl) ?_
                      refine RunC.fin ⟨[(80, .d (.bool true))], [], 2, Fr.emp, [], 0⟩ (by kernel_rfl) (by kernel_rfl) ?_
                      obtain rfl := Option.some.inj h
                      exact hK_17 _ (Can.kp (by kernel_rfl))
                    · have h := ifF hb_27 h
                      refine RunC.auX 1 ⟨[(9, .d (I r0_5_1)), (72, .d (.bool false)), (73, .agg [.d (I r0_4_1.Low), .d (I r0_4_1.High)])], [(1, .var 42 [.d (I r0_4_1.Low), .d (I r0_4_1.High)]), (0, .var 34 [.d (I r0_3.Top), .d (I r0_3.Bottom)])], 2, Fr.emp, [], 0⟩ (by kernel_rfl) ?_
                      obtain ⟨r0_8, hx_28, h⟩ := bsome h
                      refine r_call rfl rfl (k46 (-7) 8 _ hx_28) rfl rfl ?_
                      refine r_aeq rfl rfl rfl rfl rfl ft42 rfl rfl rfl ?_
                      refine RunC.auX 2 ⟨[(9, .d (I r0_5_1)), (77, .d (.bool (true != ((r0_4_1.Low == r0_8.Low) && ((r0_4_1.High == r0_8.High) && true)))))], [(1, .var 42 [.d (I r0_4_1.Low), .d (I r0_4_1.High)]), (0, .var 34 [.d (I r0_3.Top), .d (I r0_3.Bottom)])], 2, Fr.emp, [], 0⟩ (by kernel_rfl) ?_
                      refine r_split 77 rfl (fun hb_29 => ?_) (fun hb_29 => ?_)
                      · have h := ifT hb_29 h
                        refine RunC.auX 3 ⟨[(80, .d (.bool true))], [(1, .var 42 [.d (I r0_4_1.Low), .d (I r0_4_1.High)]), (0, .var 34 [.d (I r0_3.Top), .d (I r0_3.Bottom)])], 2, Fr.emp, [], 0⟩ (by kernel_rfl) ?_
                        refine RunC.fin ⟨[(80, .d (.bool true))], [], 2, Fr.emp, [], 0⟩ (by kernel_rfl) (by kernel_rfl) ?_
                        obtain rfl := Option.some.inj h
                        exact hK_17 _ (Can.kp (by kernel_rfl))
                      · have h := ifF hb_29 h
                        refine RunC.auX 3 ⟨[(80, .d (.bool (decide (r0_5_1 ≠ 6))))], [(1, .var 42 [.d (I r0_4_1.Low), .d (I r0_4_1.High)]), (0, .var 34 [.d (I r0_3.Top), .d (I r0_3.Bottom)])], 2, Fr.emp, [], 0⟩ (by kernel_rfl) ?_
                        refine RunC.fin ⟨[(80, .d (.bool (decide (r0_5_1 ≠ 6))))], [], 2, Fr.emp, [], 0⟩ (by kernel_rfl) (by kernel_rfl) ?_
                        obtain rfl := Option.some.inj h
                        exact hK_17 _ (Can.kp (by kernel_rfl))
    · refine AW.cond rfl (fun hb_30 => ?_) (fun hb_30 => ?_)
      · have h := ifT hb_30 h
        refine AW.sa fokW [] ⟨[(0, .d (.bool false))], [], 0, Fr.emp, [], 0⟩ (by kernel_rfl) ?_
        obtain rfl := Option.some.inj h
        obtain rfl := Aft.bk hk_16
        exact AW.ret (hR_0 _ (retX (.cons (.tmp rfl) .nil) (.refl _) rfl (by kernel_rfl) (by kernel_rfl)))
      · have h := ifF hb_30 h
        refine AW.skip ?_
        obtain rfl := Option.some.inj h
        exact hK_16 _ _ rfl (Can.kp (by kernel_rfl))
  · subst hj_16
    have h := Aft.nx hk_16
    refine AW.srwK (fun Q_31 hQ_31 => ?_)
    obtain ⟨r0_9, hx_32, h⟩ := bsome h
    refine RW.one fokW (r_call trivial rfl (k55 _ hx_32) rfl rfl (r_end ?_))
    obtain ⟨⟨r0_4_2, r1_5_3⟩, hx_33, h⟩ := bsome h
    refine RW.one fokW (r_call trivial rfl (k33 r0_9 _ hx_33) rfl rfl (r_end ?_))
    refine RW.au fokW 5 [] ⟨[(2, .d (I r1_5_3)), (11, .d (I r0_4_2))], [], 0, Fr.emp, [], 0⟩ (by kernel_rfl) ?_
    refine RW.nil ?_
    refine hQ_31 _ ?_
    refine AW.srwK (fun Q_34 hQ_34 => ?_)
    obtain ⟨r0_3_1, hx_35, h⟩ := bsome h
    refine RW.one fokW (r_call trivial rfl (k58 _ hx_35) rfl rfl (r_end ?_))
    obtain ⟨⟨r0_2_1, r1_2⟩, hx_36, h⟩ := bsome h
    refine RW.one fokW (r_call trivial rfl (k35 r0_3_1 _ hx_36) rfl rfl (r_end ?_))
    refine RW.au fokW 5 [] ⟨[(2, .d (I r1_5_3)), (4, .d (I r1_2)), (11, .d (I r0_4_2)), (12, .d (.sl 1 (List.map e3 r0_2_1)))], [], 0, Fr.emp, [], 0⟩ (by kernel_rfl) ?_
    refine RW.nil ?_
    refine hQ_34 _ ?_
    refine AW.srwK (fun Q_37 hQ_37 => ?_)
    obtain ⟨r0_10, hx_38, h⟩ := bsome h
    refine RW.one fokW (r_call trivial rfl (k55 _ hx_38) rfl rfl (r_end ?_))
    obtain ⟨⟨r0_4_3, r1_4_1⟩, hx_39, h⟩ := bsome h
    refine RW.one fokW (r_call trivial rfl (k25 r0_10 19 _ hx_39) rfl rfl (r_end ?_))
    refine RW.au fokW 5 [] ⟨[(2, .d (I r1_5_3)), (4, .d (I r1_2)), (6, .d (I r1_4_1)), (11, .d (I r0_4_2)), (12, .d (.sl 1 (List.map e3 r0_2_1))), (13, .d (.bool r0_4_3))], [], 0, Fr.emp, [], 0⟩ (by kernel_rfl) ?_
    refine RW.nil ?_
    refine hQ_37 _ ?_
    refine AW.srwK (fun Q_40 hQ_40 => ?_)
    obtain ⟨r0_11, hx_41, h⟩ := bsome h
    refine RW.one fokW (r_call trivial rfl (k55 _ hx_41) rfl rfl (r_end ?_))
    obtain ⟨⟨r0_1_2, r1_1⟩, hx_42, h⟩ := bsome h
    refine RW.one fokW (r_call trivial rfl (k16 r0_11 _ hx_42) rfl rfl (r_end ?_))
    refine RW.au fokW 5 [] ⟨[(2, .d (I r1_5_3)), (4, .d (I r1_2)), (6, .d (I r1_4_1)), (8, .d (I r1_1)), (11, .d (I r0_4_2)), (12, .d (.sl 1 (List.map e3 r0_2_1))), (13, .d (.bool r0_4_3)), (14, .d (.bool r0_1_2))], [], 0, Fr.emp, [], 0⟩ (by kernel_rfl) ?_
    refine RW.nil ?_
    refine hQ_40 _ ?_
    refine AW.srwK (fun Q_43 hQ_43 => ?_)
    obtain ⟨r0_1_3, hx_44, h⟩ := bsome h
    refine RW.one fokW (r_call trivial rfl (k56 _ hx_44) rfl rfl (r_end ?_))
    obtain ⟨⟨r0_3_2, r1_4_2⟩, hx_45, h⟩ := bsome h
    refine RW.one fokW (r_call trivial rfl (k22 r0_1_3 30 (-8) _ hx_45) rfl rfl (r_end ?_))
    refine RW.au fokW 6 [] ⟨[(2, .d (I r1_5_3)), (4, .d (I r1_2)), (6, .d (I r1_4_1)), (8, .d (I r1_1)), (10, .d (I r1_4_2)), (11, .d (I r0_4_2)), (12, .d (.sl 1 (List.map e3 r0_2_1))), (13, .d (.bool r0_4_3)), (14, .d (.bool r0_1_2)), (15, .ptr 0 0)], [(0, .var 34 [.d (I r0_3_2.Top), .d (I r0_3_2.Bottom)])], 1, Fr.emp, [], 0⟩ (by kernel_rfl) ?_
    refine RW.nil ?_
    refine hQ_43 _ ?_
    obtain ⟨t, hx_46, h⟩ := bsome h
    refine AW.jnSK (fun (t : Bool) => ⟨[(0, .d (.bool t))], [], 0, Fr.emp, [], 0⟩) (c := t) (fun K_46 hK_46 => ?_) ?_
    · have h := hx_46
      refine AW.drw fokW ?_
      refine RunC.auX 3 ⟨[(4, .d (I r1_2)), (6, .d (I r1_4_1)), (8, .d (I r1_1)), (10, .d (I r1_4_2)), (11, .d (I r0_4_2)), (12, .d (.sl 1 (List.map e3 r0_2_1))), (13, .d (.bool r0_4_3)), (14, .d (.bool r0_1_2)), (15, .ptr 0 0), (108, .d (.bool (decide (r1_5_3 = 0))))], [(0, .var 34 [.d (I r0_3_2.Top), .d (I r0_3_2.Bottom)])], 1, Fr.emp, [], 0⟩ (by kernel_rfl) ?_
      refine r_split 108 rfl (fun hb_48 => ?_) (fun hb_48 => ?_)
      · have h := ifT hb_48 h
        refine RunC.auX 4 ⟨[(6, .d (I r1_4_1)), (8, .d (I r1_1)), (10, .d (I r1_4_2)), (11, .d (I r0_4_2)), (12, .d (.sl 1 (List.map e3 r0_2_1))), (13, .d (.bool r0_4_3)), (14, .d (.bool r0_1_2)), (15, .ptr 0 0), (112, .d (.bool (decide (r1_2 = 0))))], [(0, .var 34 [.d (I r0_3_2.Top), .d (I r0_3_2.Bottom)])], 1, Fr.emp, [], 0⟩ (by kernel_rfl) ?_
        refine r_split 112 rfl (fun hb_49 => ?_) (fun hb_49 => ?_)
        · have h := ifT hb_49 h
          refine RunC.auX 4 ⟨[(8, .d (I r1_1)), (10, .d (I r1_4_2)), (11, .d (I r0_4_2)), (12, .d (.sl 1 (List.map e3 r0_2_1))), (13, .d (.bool r0_4_3)), (14, .d (.bool r0_1_2)), (15, .ptr 0 0), (116, .d (.bool (decide (r1_4_1 = 0))))], [(0, .var 34 [.d (I r0_3_2.Top), .d (I r0_3_2.Bottom)])], 1, Fr.emp, [], 0⟩ (by kernel_rfl) ?_
          refine r_split 116 rfl (fun hb_50 => ?_) (fun hb_50 => ?_)
          · have h := ifT hb_50 h
            refine RunC.auX 4 ⟨[(10, .d (I r1_4_2)), (11, .d (I r0_4_2)), (12, .d (.sl 1 (List.map e3 r0_2_1))), (13, .d (.bool r0_4_3)), (14, .d (.bool r0_1_2)), (15, .ptr 0 0), (120, .d (.bool (decide (r1_1 = 0))))], [(0, .var 34 [.d (I r0_3_2.Top), .d (I r0_3_2.Bottom)])], 1, Fr.emp, [], 0⟩ (by kernel_rfl) ?_
            refine r_split 120 rfl (fun hb_51 => ?_) (fun hb_51 => ?_)
            · have h := ifT hb_51 h
              refine RunC.auX 4 ⟨[(11, .d (I r0_4_2)), (12, .d (.sl 1 (List.map e3 r0_2_1))), (13, .d (.bool r0_4_3)), (14, .d (.bool r0_1_2)), (15, .ptr 0 0), (124, .d (.bool (decide (r1_4_2 = 0))))], [(0, .var 34 [.d (I r0_3_2.Top), .d (I r0_3_2.Bottom)])], 1, Fr.emp, [], 0⟩ (by kernel_rfl) ?_
              refine r_split 124 rfl (fun hb_52 => ?_) (fun hb_52 => ?_)
              · have h := ifT hb_52 h
                refine RunC.auX 4 ⟨[(12, .d (.sl 1 (List.map e3 r0_2_1))), (13, .d (.bool r0_4_3)), (14, .d (.bool r0_1_2)), (15, .ptr 0 0), (128, .d (.bool (decide (r0_4_2 = 2))))], [(0, .var 34 [.d (I r0_3_2.Top), .d (I r0_3_2.Bottom)])], 1, Fr.emp, [], 0⟩ (by kernel_rfl) ?_
                refine r_split 128 rfl (fun hb_53 => ?_) (fun hb_53 => ?_)
                · have h := ifT hb_53 h
                  refine RunC.auX 2 ⟨[(13, .d (.bool r0_4_3)), (14, .d (.bool r0_1_2)), (15, .ptr 0 0), (128, .d (.bool true)), (129, .d (.sl 1 (List.map e3 r0_2_1))), (130, .own 1 (List.map e3 [0]).length)], [(1, .row 3 1 (List.map e3 [0])), (0, .var 34 [.d (I r0_3_2.Top), .d (I r0_3_2.Bottom)])], 2, Fr.emp, [], 0⟩ (by kernel_rfl) ?_
                  obtain ⟨r0_12, hx_54, h⟩ := bsome h
                  refine r_callF (rs := [(1, .row 3 1 (List.map e3 [0]))]) rfl rfl (k37 r0_2_1 [0] _ hx_54) ⟨rfl, trivial⟩ ⟨.refl _, (.own rfl rfl), trivial⟩ rfl rfl rfl ?_
                  refine RunC.auX 2 ⟨[(13, .d (.bool r0_4_3)), (14, .d (.bool r0_1_2)), (15, .ptr 0 0), (133, .d (.bool r0_12))], [(1, .row 3 1 (List.map e3 [0])), (0, .var 34 [.d (I r0_3_2.Top), .d (I r0_3_2.Bottom)])], 2, Fr.emp, [], 0⟩ (by kernel_rfl) ?_
                  refine r_split 133 rfl (fun hb_55 => ?_) (fun hb_55 => ?_)
                  · have h := ifT hb_55 h
                    refine RunC.auX 3 ⟨[(14, .d (.bool r0_1_2)), (15, .ptr 0 0), (136, .d (.bool r0_4_3))], [(1, .row 3 1 (List.map e3 [0])), (0, .var 34 [.d (I r0_3_2.Top), .d (I r0_3_2.Bottom)])], 2, Fr.emp, [], 0⟩ (by kernel_rfl) ?_
                    refine r_split 136 rfl (fun hb_56 => ?_) (fun hb_56 => ?_)
                    · have h := ifT hb_56 h
                      refine RunC.auX 3 ⟨[(15, .ptr 0 0), (139, .d (.bool r0_1_2))], [(1, .row 3 1 (List.map e3 [0])), (0, .var 34 [.d (I r0_3_2.Top), .d (I r0_3_2.Bottom)])], 2, Fr.emp, [], 0⟩ (by kernel_rfl) ?_
                      refine r_split 139 rfl (fun hb_57 => ?_) (fun hb_57 => ?_)
                      · have h := ifT hb_57 h
                        refine RunC.auX 1 ⟨[(139, .d (.bool true)), (140, .agg [.d (I r0_3_2.Top), .d (I r0_3_2.Bottom)])], [(1, .row 3 1 (List.map e3 [0])), (0, .var 34 [.d (I r0_3_2.Top), .d (I r0_3_2.Bottom)])], 2, Fr.emp, [], 0⟩ (by kernel_rfl) ?_
                        obtain ⟨r0_13, hx_58, h⟩ := bsome h
                        refine r_call rfl rfl (k60 (-200) 9 _ hx_58) rfl rfl ?_
                        refine r_aeq rfl rfl rfl rfl rfl ft34 rfl rfl rfl ?_
                        refine RunC.auX 2 ⟨[(0, .d (.bool (false != ((r0_3_2.Top == r0_13.Top) && ((r0_3_2.Bottom == r0_13.Bottom) && true)))))], [(1, .row 3 1 (List.map e3 [0])), (0, .var 34 [.d (I r0_3_2.Top), .d (I r0_3_2.Bottom)])], 2, Fr.emp, [], 0⟩ (by kernel_rfl) ?_
                        refine RunC.fin ⟨[(0, .d (.bool (false != ((r0_3_2.Top == r0_13.Top) && ((r0_3_2.Bottom == r0_13.Bottom) && true)))))], [], 2, Fr.emp, [], 0⟩ (by kernel_rfl) (by kernel_rfl) ?_
                        obtain rfl := Option.some.inj h
                        exact hK_46 _ (Can.kp (by kernel_rfl))
                      · have h := ifF hb_57 h
                        refine RunC.auX 5 ⟨[(0, .d (.bool false))], [(1, .row 3 1 (List.map e3 [0])), (0, .var 34 [.d (I r0_3_2.Top), .d (I r0_3_2.Bottom)])], 2, Fr.emp, [], 0⟩ (by kernel_rfl) ?_
                        refine RunC.fin ⟨[(0, .d (.bool false))], [], 2, Fr.emp, [], 0⟩ (by kernel_rfl) (by kernel_rfl) ?_
                        obtain rfl := Option.some.inj h
                        exact hK_46 _ (Can.kp (by kernel_rfl))
                    · have h := ifF hb_56 h
                      refine RunC.auX 8 ⟨[(0, .d (.bool false))], [(1, .row 3 1 (List.map e3 [0])), (0, .var 34 [.d (I r0_3_2.Top), .d (I r0_3_2.Bottom)])], 2, Fr.emp, [], 0⟩ (by kernel_rfl) ?_
                      refine RunC.fin ⟨[(0, .d (.bool false))], [], 2, Fr.emp, [], 0⟩ (by kernel_rfl) (by kernel_rfl) ?_
                      obtain rfl := Option.some.inj h
                      exact hK_46 _ (Can.kp (by kernel_rfl))
                  · have h := ifF hb_55 h
                    refine RunC.auX 11 ⟨[(0, .d (.bool false))], [(1, .row 3 1 (List.map e3 [0])), (0, .var 34 [.d (I r0_3_2.Top), .d (I r0_3_2.Bottom)])], 2, Fr.emp, [], 0⟩ (by kernel_rfl) ?_
                    refine RunC.fin ⟨[(0, .d (.bool false))], [], 2, Fr.emp, [], 0⟩ (by kernel_rfl) (by kernel_rfl) ?_
                    obtain rfl := Option.some.inj h
                    exact hK_46 _ (Can.kp (by kernel_rfl))
                · have h := ifF hb_53 h
                  refine RunC.auX 16 ⟨[(0, .d (.bool false))], [(0, .var 34 [.d (I r0_3_2.Top), .d (I r0_3_2.Bottom)])], 1, Fr.emp, [], 0⟩ (by kernel_rfl) ?_
                  refine RunC.fin ⟨[(0, .d (.bool false))], [], 1, Fr.emp, [], 0⟩ (by kernel_rfl) (by kernel_rfl) ?_
                  obtain rfl := Option.some.inj h
                  exact hK_46 _ (Can.kp (by kernel_rfl))
              · have h := ifF hb_52 h
                refine RunC.auX 20 ⟨[(0, .d (.bool false))], [(0, .var 34 [.d (I r0_3_2.Top), .d (I r0_3_2.Bottom)])], 1, Fr.emp, [], 0⟩ (by kernel_rfl) ?_
                refine RunC.fin ⟨[(0, .d (.bool false))], [], 1, Fr.emp, [], 0⟩ (by kernel_rfl) (by kernel_rfl) ?_
                obtain rfl := Option.some.inj h
                exact hK_46 _ (Can.kp (by kernel_rfl))
            · have h := ifF hb_51 h
              refine RunC.auX 24 ⟨[(0, .d (.bool false))], [(0, .var 34 [.d (I r0_3_2.Top), .d (I r0_3_2.Bottom)])], 1, Fr.emp, [], 0⟩ (by kernel_rfl) ?_
              refine RunC.fin ⟨[(0, .d (.bool false))], [], 1, Fr.emp, [], 0⟩ (by kernel_rfl) (by kernel_rfl) ?_
              obtain rfl := Option.some.inj h
              exact hK_46 _ (Can.kp (by kernel_rfl))
          · have h := ifF hb_50 h
            refine RunC.auX 28 ⟨[(0, .d (.bool false))], [(0, .var 34 [.d (I r0_3_2.Top), .d (I r0_3_2.Bottom)])], 1, Fr.emp, [], 0⟩ (by kernel_rfl) ?_
            refine RunC.fin ⟨[(0, .d (.bool false))], [], 1, Fr.emp, [], 0⟩ (by kernel_rfl) (by kernel_rfl) ?_
            obtain rfl := Option.some.inj h
            exact hK_46 _ (Can.kp (by kernel_rfl))
        · have h := ifF hb_49 h
          refine RunC.auX 32 ⟨[(0, .d (.bool false))], [(0, .var 34 [.d (I r0_3_2.Top), .d (I r0_3_2.Bottom)])], 1, Fr.emp, [], 0⟩ (by kernel_rfl) ?_
          refine RunC.fin ⟨[(0, .d (.bool false))], [], 1, Fr.emp, [], 0⟩ (by kernel_rfl) (by kernel_rfl) ?_
          obtain rfl := Option.some.inj h
          exact hK_46 _ (Can.kp (by kernel_rfl))
      · have h := ifF hb_48 h
        refine RunC.auX 36 ⟨[(0, .d (.bool false))], [(0, .var 34 [.d (I r0_3_2.Top), .d (I r0_3_2.Bottom)])], 1, Fr.emp, [], 0⟩ (by kernel_rfl) ?_
        refine RunC.fin ⟨[(0, .d (.bool false))], [], 1, Fr.emp, [], 0⟩ (by kernel_rfl) (by kernel_rfl) ?_
        obtain rfl := Option.some.inj h
        exact hK_46 _ (Can.kp (by kernel_rfl))
    · obtain rfl := Option.some.inj h
      exact AW.ret (hR_0 _ (retX (.cons (.tmp rfl) .nil) (.refl _) rfl (by kernel_rfl) (by kernel_rfl)))
def g77_7 (b : StandBook) (weight : Int) (p : (List Int)) : Int → Unit → Option (Ctl (Unit) (Ctl (Unit) (Bool))) := fun lean _ => (g72 b p weight lean).bind fun r0 => bif r0 then (some (.brk (.brk false))) else (some (.next ()))
def g77_2 (b : StandBook) (weight : Int) : Int → (List Int) → Unit → Option (Ctl (Unit) (Bool)) := fun i p _ => (must (decide ((b.Lean_ + 1) ≤ 9223372036854775807))).bind fun _ => bindC (forC (g77_7 b weight p) ((((b.Lean_ + 1) : Int) - (wr (-b.Lean_))).toNat) (wr (-b.Lean_)) ()) fun _ => some (.next ())
def g77 (b : StandBook) (l : (List (List Int))) (weight : Int) : Option Bool := bindC (eachC (g77_2 b weight) l 0 ()) fun _ => some true
theorem k77 (b : StandBook) (l : (List (List Int))) (weight : Int) (r : Bool) (h : g77 b l weight = some r) : SCall Tryd.prog Gs 77 [.agg (cv25 b), .d (.sl 1 (List.map e47 l)), .d (I weight)] [] 0 Fr.emp (.d (.bool r)) [] 0 Fr.emp := by
  unfold g77 at h
  refine SCall.mkK Tryd.func77 c77 rfl rfl (by kernel_rfl) (fun Q_0 hR_0 hN_0 => ?_)
  refine AW.sa fokW [] ⟨[(1, .d (.sl 1 (List.map e47 l))), (2, .d (I weight)), (3, .ptr 0 0)], [(0, .var 25 (cv25 b))], 1, Fr.emp, [], 0⟩ (by kernel_rfl) ?_
  refine AW.seqK (fun K_1 hK_1 => ?_)
  refine AW.sa fokW [] ⟨[(1, .d (.sl 1 (List.map e47 l))), (2, .d (I weight)), (3, .ptr 0 0), (7, .d (I 0))], [(0, .var 25 (cv25 b))], 1, Fr.emp, [], 0⟩ (by kernel_rfl) ?_
  refine AW.block ?_
  refine AW.sln (t := 1) rfl (fun hN_2 => ?_)
  rw [List.length_map] at hN_2
  obtain ⟨out_2, hx_2, hk_2⟩ := bsomeC h
  refine AW.evCK (fun (i : Int) (_ : Unit) => ⟨[(1, .d (.sl 1 (List.map e47 l))), (2, .d (I weight)), (3, .ptr 0 0), (7, .d (I i))], [(0, .var 25 (cv25 b))], 1, Fr.emp, [], 0⟩) (g77_2 b weight) hx_2 (Can.kp (by kernel_rfl)) (fun i p s_2 hi_2 hl_2 hp_2 c_2 h hb_2 K_2 hK_2 => ?_) (fun i s_2 hi_2 hl_2 hout => ?_)
  · unfold g77_2 at h
    refine AW.seqK (fun K_3 hK_3 => ?_)
    refine AW.srwK (fun Q_4 hQ_4 => ?_)
    refine RW.au fokW 2 [] ⟨[(1, .d (.sl 1 (List.map e47 l))), (2, .d (I weight)), (3, .ptr 0 0), (7, .d (I i)), (9, .d (I i)), (10, .d (.sl 1 (List.map e47 l)))], [(0, .var 25 (cv25 b))], 1, Fr.emp, [], 0⟩ (by kernel_rfl) ?_
    refine RW.one fokW (r_lenX trivial rfl lenm (r_end ?_))
    refine RW.au fokW 1 [] ⟨[(1, .d (.sl 1 (List.map e47 l))), (2, .d (I weight)), (3, .ptr 0 0), (7, .d (I i)), (12, .d (.bool (decide (i < (l.length : Int)))))], [(0, .var 25 (cv25 b))], 1, Fr.emp, [], 0⟩ (by kernel_rfl) ?_
    refine RW.nil ?_
    refine hQ_4 _ ?_
    refine AW.cond rfl (fun hb_5 => ?_) (fun hb_5 => False.elim (by have := of_decide_eq_false hb_5; omega))
    refine AW.skip ?_
    refine hK_3 _ ?_
    refine AW.seqK (fun K_6 hK_6 => ?_)
    refine AW.block ?_
    refine AW.sa fokW [] ⟨[(1, .d (.sl 1 (List.map e47 l))), (2, .d (I weight)), (3, .ptr 0 0), (7, .d (I i)), (8, .d (I (wr (-b.Lean_))))], [(0, .var 25 (cv25 b))], 1, Fr.emp, [], 0⟩ (by kernel_rfl) ?_
    refine AW.block ?_
    obtain ⟨_, hN_7, h⟩ := bsome h
    have hN_7 := of_decide_eq_true (must_ok hN_7)
    have h0_7 : -9223372036854775808 ≤ (wr (-b.Lean_)) := (wr_range _).1
    obtain ⟨out_7, hx_7, hk_7⟩ := bsomeC h
    refine AW.lpCK (fun (lean : Int) (_ : Unit) => ⟨[(1, .d (.sl 1 (List.map e47 l))), (2, .d (I weight)), (3, .ptr 0 0), (7, .d (I i)), (8, .d (I lean))], [(0, .var 25 (cv25 b))], 1, Fr.emp, [], 0⟩) (g77_7 b weight p) ((b.Lean_ + 1)) hx_7 (Can.kp (by kernel_rfl)) (fun lean s_7 hi_7 hl_7 c_7 h hb_7 K_7 hK_7 => ?_) (fun lean s_7 hi_7 hl_7 hout => ?_)
    · unfold g77_7 at h
      refine AW.seqK (fun K_8 hK_8 => ?_)
      refine AW.sa fokW [] ⟨[(1, .d (.sl 1 (List.map e47 l))), (2, .d (I weight)), (3, .ptr 0 0), (7, .d (I i)), (8, .d (I lean)), (21, .d (.bool (decide (lean ≤ b.Lean_))))], [(0, .var 25 (cv25 b))], 1, Fr.emp, [], 0⟩ (by kernel_rfl) ?_
      refine AW.cond rfl (fun hb_9 => ?_) (fun hb_9 => False.elim (by have := of_decide_eq_false hb_9; omega))
      refine AW.skip ?_
      refine hK_8 _ ?_
      refine AW.seqK (fun K_10 hK_10 => ?_)
      refine AW.block ?_
      refine AW.sdrwK fokW (fun Q_11 hQ_11 => ?_)
      refine RunC.auX 3 ⟨[(1, .d (.sl 1 (List.map e47 l))), (2, .d (I weight)), (3, .ptr 0 0), (7, .d (I i)), (8, .d (I lean)), (24, .agg (cv25 b)), (25, .d (.sl 1 (List.map e47 l))), (26, .d (I i))], [(0, .var 25 (cv25 b))], 1, Fr.emp, [], 0⟩ (by kernel_rfl) ?_
      refine r_iaD trivial rfl rfl hi_2 (row := e47 p) (mapget hp_2) ?_
      refine RunC.auX 3 ⟨[(1, .d (.sl 1 (List.map e47 l))), (2, .d (I weight)), (3, .ptr 0 0), (7, .d (I i)), (8, .d (I lean)), (24, .agg (cv25 b)), (28, .d (.sl 1 (List.map e3 p))), (29, .d (I weight)), (30, .d (I lean))], [(0, .var 25 (cv25 b))], 1, Fr.emp, [], 0⟩ (by kernel_rfl) ?_
      obtain ⟨r0, hx_12, h⟩ := bsome h
      refine r_call trivial rfl (k72 b p weight lean _ hx_12) rfl rfl ?_
      refine RunC.fin ⟨[(1, .d (.sl 1 (List.map e47 l))), (2, .d (I weight)), (3, .ptr 0 0), (7, .d (I i)), (8, .d (I lean)), (31, .d (.bool r0))], [(0, .var 25 (cv25 b))], 1, Fr.emp, [], 0⟩ (by kernel_rfl) (by kernel_rfl) ?_
      refine hQ_11 _ ?_
      refine AW.cond rfl (fun hb_13 => ?_) (fun hb_13 => ?_)
      · have h := ifT hb_13 h
        refine AW.sa fokW [] ⟨[(6, .d (.bool false))], [], 1, Fr.emp, [], 0⟩ (by kernel_rfl) ?_
        obtain rfl := Option.some.inj h
        have e_2 := hb_7 _ rfl
        subst e_2
        obtain rfl := Aft.bk hk_7
        have e_1 := hb_2 _ rfl
        subst e_1
        obtain rfl := Aft.bk hk_2
        exact AW.ret (hR_0 _ (retX (.cons (.tmp rfl) .nil) (.refl _) rfl (by kernel_rfl) (by kernel_rfl)))
      · have h := ifF hb_13 h
        refine AW.skip ?_
        refine hK_10 _ ?_
        refine AW.ra fokW [] ⟨[(1, .d (.sl 1 (List.map e47 l))), (2, .d (I weight)), (3, .ptr 0 0), (7, .d (I i)), (8, .d (I (wr (lean + 1))))], [(0, .var 25 (cv25 b))], 1, Fr.emp, [], 0⟩ (by kernel_rfl) ?_
        obtain rfl := Option.some.inj h
        have ew : wr (lean + 1) = lean + 1 := inext (N := (b.Lean_ + 1)) (by omega) (by omega) (by omega)
        rw [ew]
        exact hK_7 _ _ rfl (Can.kp (by kernel_rfl))
    · subst hout
      have h := Aft.nx hk_7
      refine AW.seqK (fun K_14 hK_14 => ?_)
      refine AW.sa fokW [] ⟨[(1, .d (.sl 1 (List.map e47 l))), (2, .d (I weight)), (3, .ptr 0 0), (7, .d (I i)), (8, .d (I lean)), (21, .d (.bool (decide (lean ≤ b.Lean_))))], [(0, .var 25 (cv25 b))], 1, Fr.emp, [], 0⟩ (by kernel_rfl) ?_
      refine AW.cond rfl (fun hb_15 => False.elim (by have := of_decide_eq_true hb_15; omega)) (fun hb_15 => ?_)
      refine AW.exit ?_
      refine hK_6 _ ?_
      refine AW.ra fokW [] ⟨[(1, .d (.sl 1 (List.map e47 l))), (2, .d (I weight)), (3, .ptr 0 0), (7, .d (I (wr (i + 1))))], [(0, .var 25 (cv25 b))], 1, Fr.emp, [], 0⟩ (by kernel_rfl) ?_
      obtain rfl := Option.some.inj h
      have ew : wr (i + 1) = i + 1 := inext (N := (l.length : Int)) (by omega) (by omega) (by omega)
      rw [ew]
      exact hK_2 _ _ rfl (Can.kp (by kernel_rfl))
  · subst hout
    have h := Aft.nx hk_2
    refine AW.seqK (fun K_16 hK_16 => ?_)
    refine AW.srwK (fun Q_17 hQ_17 => ?_)
    refine RW.au fokW 2 [] ⟨[(1, .d (.sl 1 (List.map e47 l))), (2, .d (I weight)), (3, .ptr 0 0), (7, .d (I i)), (9, .d (I i)), (10, .d (.sl 1 (List.map e47 l)))], [(0, .var 25 (cv25 b))], 1, Fr.emp, [], 0⟩ (by kernel_rfl) ?_
    refine RW.one fokW (r_lenX trivial rfl lenm (r_end ?_))
    refine RW.au fokW 1 [] ⟨[(1, .d (.sl 1 (List.map e47 l))), (2, .d (I weight)), (3, .ptr 0 0), (7, .d (I i)), (12, .d (.bool (decide (i < (l.length : Int)))))], [(0, .var 25 (cv25 b))], 1, Fr.emp, [], 0⟩ (by kernel_rfl) ?_
    refine RW.nil ?_
    refine hQ_17 _ ?_
    refine AW.cond rfl (fun hb_18 => False.elim (by have := of_decide_eq_true hb_18; omega)) (fun hb_18 => ?_)
    refine AW.exit ?_
    refine hK_1 _ ?_
    refine AW.sa fokW [] ⟨[(6, .d (.bool true))], [], 1, Fr.emp, [], 0⟩ (by kernel_rfl) ?_
    obtain rfl := Option.some.inj h
    exact AW.ret (hR_0 _ (retX (.cons (.tmp rfl) .nil) (.refl _) rfl (by kernel_rfl) (by kernel_rfl)))
def g26 (b : StandBook) (weight : Int) : Option (Bool × Int) := (g65 b weight).bind fun r0_1 => (g71 b r0_1).bind fun (r0_4, r1_3) => bif (decide (r1_3 ≠ 0)) then (some (false, r1_3)) else ((g77 b r0_4 weight).bind fun r0_2 => some (r0_2, 0))
theorem k26 (b : StandBook) (weight : Int) (r : Bool × Int) (h : g26 b weight = some r) : SCall Tryd.prog Gs 26 [.agg (cv25 b), .d (I weight)] [] 0 Fr.emp (match r with | (r0_3, r1_1) => .tup [.d (.bool r0_3), .d (I r1_1)]) [] 0 Fr.emp := by
  unfold g26 at h
  refine SCall.mkK Tryd.func26 c26 rfl rfl (by kernel_rfl) (fun Q_0 hR_0 hN_0 => ?_)
  refine AW.sa fokW [] ⟨[(1, .d (I weight)), (2, .ptr 0 0)], [(0, .var 25 (cv25 b))], 1, Fr.emp, [], 0⟩ (by kernel_rfl) ?_
  refine AW.sdrwK fokW (fun Q_1 hQ_1 => ?_)
  refine RunC.auX 3 ⟨[(1, .d (I weight)), (2, .ptr 0 0), (9, .agg (cv25 b)), (10, .agg (cv25 b)), (11, .d (I weight))], [(0, .var 25 (cv25 b))], 1, Fr.emp, [], 0⟩ (by kernel_rfl) ?_
  obtain ⟨r0_1, hx_2, h⟩ := bsome h
  refine r_call trivial rfl (k65 b weight _ hx_2) rfl rfl ?_
  obtain ⟨⟨r0_4, r1_3⟩, hx_3, h⟩ := bsome h
  refine r_call trivial rfl (k71 b r0_1 _ hx_3) rfl rfl ?_
  refine RunC.auX 5 ⟨[(1, .d (I weight)), (2, .ptr 0 0), (6, .d (.sl 1 (List.map e47 r0_4))), (7, .d (I r1_3))], [(0, .var 25 (cv25 b))], 1, Fr.emp, [], 0⟩ (by kernel_rfl) ?_
  refine RunC.fin ⟨[(1, .d (I weight)), (2, .ptr 0 0), (6, .d (.sl 1 (List.map e47 r0_4))), (7, .d (I r1_3))], [(0, .var 25 (cv25 b))], 1, Fr.emp, [], 0⟩ (by kernel_rfl) (by kernel_rfl) ?_
  refine hQ_1 _ ?_
  refine AW.seqK (fun K_4 hK_4 => ?_)
  refine AW.sa fokW [] ⟨[(1, .d (I weight)), (2, .ptr 0 0), (6, .d (.sl 1 (List.map e47 r0_4))), (7, .d (I r1_3)), (17, .d (.bool (decide (r1_3 ≠ 0))))], [(0, .var 25 (cv25 b))], 1, Fr.emp, [], 0⟩ (by kernel_rfl) ?_
  refine AW.cond rfl (fun hb_5 => ?_) (fun hb_5 => ?_)
  · have h := ifT hb_5 h
    refine AW.sa fokW [] ⟨[(4, .d (.bool false)), (5, .d (I r1_3))], [], 1, Fr.emp, [], 0⟩ (by kernel_rfl) ?_
    obtain rfl := Option.some.inj h
    exact AW.ret (hR_0 _ (retX (.cons (.tmp rfl) (.cons (.tmp rfl) .nil)) (.refl _) rfl (by kernel_rfl) (by kernel_rfl)))
  · have h := ifF hb_5 h
    refine AW.skip ?_
    refine hK_4 _ ?_
    refine AW.srwK (fun Q_6 hQ_6 => ?_)
    refine RW.au fokW 3 [] ⟨[(19, .agg (cv25 b)), (20, .d (.sl 1 (List.map e47 r0_4))), (21, .d (I weight))], [], 1, Fr.emp, [], 0⟩ (by kernel_rfl) ?_
    obtain ⟨r0_2, hx_7, h⟩ := bsome h
    refine RW.one fokW (r_call trivial rfl (k77 b r0_4 weight _ hx_7) rfl rfl (r_end ?_))
    refine RW.au fokW 2 [] ⟨[(4, .d (.bool r0_2)), (5, .d (I 0))], [], 1, Fr.emp, [], 0⟩ (by kernel_rfl) ?_
    refine RW.nil ?_
    refine hQ_6 _ ?_
    obtain rfl := Option.some.inj h
    exact AW.ret (hR_0 _ (retX (.cons (.tmp rfl) (.cons (.tmp rfl) .nil)) (.refl _) rfl (by kernel_rfl) (by kernel_rfl)))
def g78_2 (b : StandBook) (l : (List (List Int))) : Int → Unit → Option (Ctl (Unit) (Int)) := fun w _ => (g77 b l w).bind fun r0_2 => bif (!r0_2) then (some (.brk w)) else (some (.next ()))
def g78 (b : StandBook) (l : (List (List Int))) : Option Int := (must (decide ((b.Limit + 1) ≤ 9223372036854775807))).bind fun _ => bindC (forC (g78_2 b l) ((((b.Limit + 1) : Int) - 1).toNat) 1 ()) fun _ => some 0
theorem k78 (b : StandBook) (l : (List (List Int))) (r : Int) (h : g78 b l = some r) : SCall Tryd.prog Gs 78 [.agg (cv25 b), .d (.sl 1 (List.map e47 l))] [] 0 Fr.emp (.d (I r)) [] 0 Fr.emp := by
  unfold g78 at h
  refine SCall.mkK Tryd.func78 c78 rfl rfl (by kernel_rfl) (fun Q_0 hR_0 hN_0 => ?_)
  refine AW.sa fokW [] ⟨[(1, .d (.sl 1 (List.map e47 l))), (2, .ptr 0 0)], [(0, .var 25 (cv25 b))], 1, Fr.emp, [], 0⟩ (by kernel_rfl) ?_
  refine AW.seqK (fun K_1 hK_1 => ?_)
  refine AW.sa fokW [] ⟨[(1, .d (.sl 1 (List.map e47 l))), (2, .ptr 0 0), (5, .d (I 1))], [(0, .var 25 (cv25 b))], 1, Fr.emp, [], 0⟩ (by kernel_rfl) ?_
  refine AW.block ?_
  obtain ⟨_, hN_2, h⟩ := bsome h
  have hN_2 := of_decide_eq_true (must_ok hN_2)
  obtain ⟨out_2, hx_2, hk_2⟩ := bsomeC h
  refine AW.lpCK (fun (w : Int) (_ : Unit) => ⟨[(1, .d (.sl 1 (List.map e47 l))), (2, .ptr 0 0), (5, .d (I w))], [(0, .var 25 (cv25 b))], 1, Fr.emp, [], 0⟩) (g78_2 b l) ((b.Limit + 1)) hx_2 (Can.kp (by kernel_rfl)) (fun w s_2 hi_2 hl_2 c_2 h hb_2 K_2 hK_2 => ?_) (fun w s_2 hi_2 hl_2 hout => ?_)
  · unfold g78_2 at h
    refine AW.seqK (fun K_3 hK_3 => ?_)
    refine AW.sa fokW [] ⟨[(1, .d (.sl 1 (List.map e47 l))), (2, .ptr 0 0), (5, .d (I w)), (9, .d (.bool (decide (w ≤ b.Limit))))], [(0, .var 25 (cv25 b))], 1, Fr.emp, [], 0⟩ (by kernel_rfl) ?_
    refine AW.cond rfl (fun hb_4 => ?_) (fun hb_4 => False.elim (by have := of_decide_eq_false hb_4; omega))
    refine AW.skip ?_
    refine hK_3 _ ?_
    refine AW.seqK (fun K_5 hK_5 => ?_)
    refine AW.block ?_
    refine AW.srwK (fun Q_6 hQ_6 => ?_)
    refine RW.au fokW 3 [] ⟨[(1, .d (.sl 1 (List.map e47 l))), (2, .ptr 0 0), (5, .d (I w)), (12, .agg (cv25 b)), (13, .d (.sl 1 (List.map e47 l))), (14, .d (I w))], [(0, .var 25 (cv25 b))], 1, Fr.emp, [], 0⟩ (by kernel_rfl) ?_
    obtain ⟨r0_2, hx_7, h⟩ := bsome h
    refine RW.one fokW (r_call trivial rfl (k77 b l w _ hx_7) rfl rfl (r_end ?_))
    refine RW.au fokW 1 [] ⟨[(1, .d (.sl 1 (List.map e47 l))), (2, .ptr 0 0), (5, .d (I w)), (16, .d (.bool (!r0_2)))], [(0, .var 25 (cv25 b))], 1, Fr.emp, [], 0⟩ (by kernel_rfl) ?_
    refine RW.nil ?_
    refine hQ_6 _ ?_
    refine AW.cond rfl (fun hb_8 => ?_) (fun hb_8 => ?_)
    · have h := ifT hb_8 h
      refine AW.sa fokW [] ⟨[(4, .d (I w))], [], 1, Fr.emp, [], 0⟩ (by kernel_rfl) ?_
      obtain rfl := Option.some.inj h
      have e_1 := hb_2 _ rfl
      subst e_1
      obtain rfl := Aft.bk hk_2
      exact AW.ret (hR_0 _ (retX (.cons (.tmp rfl) .nil) (.refl _) rfl (by kernel_rfl) (by kernel_rfl)))
    · have h := ifF hb_8 h
      refine AW.skip ?_
      refine hK_5 _ ?_
      refine AW.ra fokW [] ⟨[(1, .d (.sl 1 (List.map e47 l))), (2, .ptr 0 0), (5, .d (I (wr (w + 1))))], [(0, .var 25 (cv25 b))], 1, Fr.emp, [], 0⟩ (by kernel_rfl) ?_
      obtain rfl := Option.some.inj h
      have ew : wr (w + 1) = w + 1 := inext (N := (b.Limit + 1)) (by omega) (by omega) (by omega)
      rw [ew]
      exact hK_2 _ _ rfl (Can.kp (by kernel_rfl))
  · subst hout
    have h := Aft.nx hk_2
    refine AW.seqK (fun K_9 hK_9 => ?_)
    refine AW.sa fokW [] ⟨[(1, .d (.sl 1 (List.map e47 l))), (2, .ptr 0 0), (5, .d (I w)), (9, .d (.bool (decide (w ≤ b.Limit))))], [(0, .var 25 (cv25 b))], 1, Fr.emp, [], 0⟩ (by kernel_rfl) ?_
    refine AW.cond rfl (fun hb_10 => False.elim (by have := of_decide_eq_true hb_10; omega)) (fun hb_10 => ?_)
    refine AW.exit ?_
    refine hK_1 _ ?_
    refine AW.sa fokW [] ⟨[(4, .d (I 0))], [], 1, Fr.emp, [], 0⟩ (by kernel_rfl) ?_
    obtain rfl := Option.some.inj h
    exact AW.ret (hR_0 _ (retX (.cons (.tmp rfl) .nil) (.refl _) rfl (by kernel_rfl) (by kernel_rfl)))
def g28 (b : StandBook) : Option (Int × Int) := (g71 b true).bind fun (r0_4, r1_3) => bif (decide (r1_3 ≠ 0)) then (some (0, r1_3)) else ((g78 b r0_4).bind fun r0_1 => bif (decide (0 < r0_1)) then (some (r0_1, 0)) else (some (0, 4)))
theorem k28 (b : StandBook) (r : Int × Int) (h : g28 b = some r) : SCall Tryd.prog Gs 28 [.agg (cv25 b)] [] 0 Fr.emp (match r with | (r0_3, r1_2) => .tup [.d (I r0_3), .d (I r1_2)]) [] 0 Fr.emp := by
  unfold g28 at h
  refine SCall.mkK Tryd.func28 c28 rfl rfl (by kernel_rfl) (fun Q_0 hR_0 hN_0 => ?_)
  refine AW.sa fokW [] ⟨[(1, .ptr 0 0)], [(0, .var 25 (cv25 b))], 1, Fr.emp, [], 0⟩ (by kernel_rfl) ?_
  refine AW.srwK (fun Q_1 hQ_1 => ?_)
  refine RW.au fokW 1 [] ⟨[(1, .ptr 0 0), (8, .agg (cv25 b))], [(0, .var 25 (cv25 b))], 1, Fr.emp, [], 0⟩ (by kernel_rfl) ?_
  obtain ⟨⟨r0_4, r1_3⟩, hx_2, h⟩ := bsome h
  refine RW.one fokW (r_call trivial rfl (k71 b true _ hx_2) rfl rfl (r_end ?_))
  refine RW.au fokW 5 [] ⟨[(1, .ptr 0 0), (4, .d (.sl 1 (List.map e47 r0_4))), (5, .d (I r1_3))], [(0, .var 25 (cv25 b))], 1, Fr.emp, [], 0⟩ (by kernel_rfl) ?_
  refine RW.nil ?_
  refine hQ_1 _ ?_
  refine AW.seqK (fun K_3 hK_3 => ?_)
  refine AW.sa fokW [] ⟨[(1, .ptr 0 0), (4, .d (.sl 1 (List.map e47 r0_4))), (5, .d (I r1_3)), (13, .d (.bool (decide (r1_3 ≠ 0))))], [(0, .var 25 (cv25 b))], 1, Fr.emp, [], 0⟩ (by kernel_rfl) ?_
  refine AW.cond rfl (fun hb_4 => ?_) (fun hb_4 => ?_)
  · have h := ifT hb_4 h
    refine AW.sa fokW [] ⟨[(2, .d (I 0)), (3, .d (I r1_3))], [], 1, Fr.emp, [], 0⟩ (by kernel_rfl) ?_
    obtain rfl := Option.some.inj h
    exact AW.ret (hR_0 _ (retX (.cons (.tmp rfl) (.cons (.tmp rfl) .nil)) (.refl _) rfl (by kernel_rfl) (by kernel_rfl)))
  · have h := ifF hb_4 h
    refine AW.skip ?_
    refine hK_3 _ ?_
    refine AW.seqK (fun K_5 hK_5 => ?_)
    refine AW.srwK (fun Q_6 hQ_6 => ?_)
    refine RW.au fokW 2 [] ⟨[(15, .agg (cv25 b)), (16, .d (.sl 1 (List.map e47 r0_4)))], [], 1, Fr.emp, [], 0⟩ (by kernel_rfl) ?_
    obtain ⟨r0_1, hx_7, h⟩ := bsome h
    refine RW.one fokW (r_call trivial rfl (k78 b r0_4 _ hx_7) rfl rfl (r_end ?_))
    refine RW.au fokW 1 [] ⟨[(6, .d (I r0_1))], [], 1, Fr.emp, [], 0⟩ (by kernel_rfl) ?_
    refine RW.nil ?_
    refine hQ_6 _ ?_
    refine AW.sa fokW [] ⟨[(6, .d (I r0_1)), (19, .d (.bool (decide (0 < r0_1))))], [], 1, Fr.emp, [], 0⟩ (by kernel_rfl) ?_
    refine AW.cond rfl (fun hb_8 => ?_) (fun hb_8 => ?_)
    · have h := ifT hb_8 h
      refine AW.sa fokW [] ⟨[(2, .d (I r0_1)), (3, .d (I 0))], [], 1, Fr.emp, [], 0⟩ (by kernel_rfl) ?_
      obtain rfl := Option.some.inj h
      exact AW.ret (hR_0 _ (retX (.cons (.tmp rfl) (.cons (.tmp rfl) .nil)) (.refl _) rfl (by kernel_rfl) (by kernel_rfl)))
    · have h := ifF hb_8 h
      refine AW.skip ?_
      refine hK_5 _ ?_
      refine AW.sa fokW [] ⟨[(2, .d (I 0)), (3, .d (I 4))], [], 1, Fr.emp, [], 0⟩ (by kernel_rfl) ?_
      obtain rfl := Option.some.inj h
      exact AW.ret (hR_0 _ (retX (.cons (.tmp rfl) (.cons (.tmp rfl) .nil)) (.refl _) rfl (by kernel_rfl) (by kernel_rfl)))
def g79_2 (b : StandBook) (weight : Int) (lean : Int) : Int → (List Int) → Unit → Option (Ctl (Unit) (Bool)) := fun i p _ => (g72 b p weight lean).bind fun r0 => bif r0 then (some (.brk false)) else (some (.next ()))
def g79 (b : StandBook) (l : (List (List Int))) (weight : Int) (lean : Int) : Option Bool := bindC (eachC (g79_2 b weight lean) l 0 ()) fun _ => some true
theorem k79 (b : StandBook) (l : (List (List Int))) (weight : Int) (lean : Int) (r : Bool) (h : g79 b l weight lean = some r) : SCall Tryd.prog Gs 79 [.agg (cv25 b), .d (.sl 1 (List.map e47 l)), .d (I weight), .d (I lean)] [] 0 Fr.emp (.d (.bool r)) [] 0 Fr.emp := by
  unfold g79 at h
  refine SCall.mkK Tryd.func79 c79 rfl rfl (by kernel_rfl) (fun Q_0 hR_0 hN_0 => ?_)
  refine AW.sa fokW [] ⟨[(1, .d (.sl 1 (List.map e47 l))), (2, .d (I weight)), (3, .d (I lean)), (4, .ptr 0 0)], [(0, .var 25 (cv25 b))], 1, Fr.emp, [], 0⟩ (by kernel_rfl) ?_
  refine AW.seqK (fun K_1 hK_1 => ?_)
  refine AW.sa fokW [] ⟨[(1, .d (.sl 1 (List.map e47 l))), (2, .d (I weight)), (3, .d (I lean)), (4, .ptr 0 0), (9, .d (I 0))], [(0, .var 25 (cv25 b))], 1, Fr.emp, [], 0⟩ (by kernel_rfl) ?_
  refine AW.block ?_
  refine AW.sln (t := 1) rfl (fun hN_2 => ?_)
  rw [List.length_map] at hN_2
  obtain ⟨out_2, hx_2, hk_2⟩ := bsomeC h
  refine AW.evCK (fun (i : Int) (_ : Unit) => ⟨[(1, .d (.sl 1 (List.map e47 l))), (2, .d (I weight)), (3, .d (I lean)), (4, .ptr 0 0), (9, .d (I i))], [(0, .var 25 (cv25 b))], 1, Fr.emp, [], 0⟩) (g79_2 b weight lean) hx_2 (Can.kp (by kernel_rfl)) (fun i p s_2 hi_2 hl_2 hp_2 c_2 h hb_2 K_2 hK_2 => ?_) (fun i s_2 hi_2 hl_2 hout => ?_)
  · unfold g79_2 at h
    refine AW.seqK (fun K_3 hK_3 => ?_)
    refine AW.srwK (fun Q_4 hQ_4 => ?_)
    refine RW.au fokW 2 [] ⟨[(1, .d (.sl 1 (List.map e47 l))), (2, .d (I weight)), (3, .d (I lean)), (4, .ptr 0 0), (9, .d (I i)), (10, .d (I i)), (11, .d (.sl 1 (List.map e47 l)))], [(0, .var 25 (cv25 b))], 1, Fr.emp, [], 0⟩ (by kernel_rfl) ?_
    refine RW.one fokW (r_lenX trivial rfl lenm (r_end ?_))
    refine RW.au fokW 1 [] ⟨[(1, .d (.sl 1 (List.map e47 l))), (2, .d (I weight)), (3, .d (I lean)), (4, .ptr 0 0), (9, .d (I i)), (13, .d (.bool (decide (i < (l.length : Int)))))], [(0, .var 25 (cv25 b))], 1, Fr.emp, [], 0⟩ (by kernel_rfl) ?_
    refine RW.nil ?_
    refine hQ_4 _ ?_
    refine AW.cond rfl (fun hb_5 => ?_) (fun hb_5 => False.elim (by have := of_decide_eq_false hb_5; omega))
    refine AW.skip ?_
    refine hK_3 _ ?_
    refine AW.seqK (fun K_6 hK_6 => ?_)
    refine AW.block ?_
    refine AW.sdrwK fokW (fun Q_7 hQ_7 => ?_)
    refine RunC.auX 3 ⟨[(1, .d (.sl 1 (List.map e47 l))), (2, .d (I weight)), (3, .d (I lean)), (4, .ptr 0 0), (9, .d (I i)), (16, .agg (cv25 b)), (17, .d (.sl 1 (List.map e47 l))), (18, .d (I i))], [(0, .var 25 (cv25 b))], 1, Fr.emp, [], 0⟩ (by kernel_rfl) ?_
    refine r_iaD trivial rfl rfl hi_2 (row := e47 p) (mapget hp_2) ?_
    refine RunC.auX 3 ⟨[(1, .d (.sl 1 (List.map e47 l))), (2, .d (I weight)), (3, .d (I lean)), (4, .ptr 0 0), (9, .d (I i)), (16, .agg (cv25 b)), (20, .d (.sl 1 (List.map e3 p))), (21, .d (I weight)), (22, .d (I lean))], [(0, .var 25 (cv25 b))], 1, Fr.emp, [], 0⟩ (by kernel_rfl) ?_
    obtain ⟨r0, hx_8, h⟩ := bsome h
    refine r_call trivial rfl (k72 b p weight lean _ hx_8) rfl rfl ?_
    refine RunC.fin ⟨[(1, .d (.sl 1 (List.map e47 l))), (2, .d (I weight)), (3, .d (I lean)), (4, .ptr 0 0), (9, .d (I i)), (23, .d (.bool r0))], [(0, .var 25 (cv25 b))], 1, Fr.emp, [], 0⟩ (by kernel_rfl) (by kernel_rfl) ?_
    refine hQ_7 _ ?_
    refine AW.cond rfl (fun hb_9 => ?_) (fun hb_9 => ?_)
    · have h := ifT hb_9 h
      refine AW.sa fokW [] ⟨[(8, .d (.bool false))], [], 1, Fr.emp, [], 0⟩ (by kernel_rfl) ?_
      obtain rfl := Option.some.inj h
      have e_1 := hb_2 _ rfl
      subst e_1
      obtain rfl := Aft.bk hk_2
      exact AW.ret (hR_0 _ (retX (.cons (.tmp rfl) .nil) (.refl _) rfl (by kernel_rfl) (by kernel_rfl)))
    · have h := ifF hb_9 h
      refine AW.skip ?_
      refine hK_6 _ ?_
      refine AW.ra fokW [] ⟨[(1, .d (.sl 1 (List.map e47 l))), (2, .d (I weight)), (3, .d (I lean)), (4, .ptr 0 0), (9, .d (I (wr (i + 1))))], [(0, .var 25 (cv25 b))], 1, Fr.emp, [], 0⟩ (by kernel_rfl) ?_
      obtain rfl := Option.some.inj h
      have ew : wr (i + 1) = i + 1 := inext (N := (l.length : Int)) (by omega) (by omega) (by omega)
      rw [ew]
      exact hK_2 _ _ rfl (Can.kp (by kernel_rfl))
  · subst hout
    have h := Aft.nx hk_2
    refine AW.seqK (fun K_10 hK_10 => ?_)
    refine AW.srwK (fun Q_11 hQ_11 => ?_)
    refine RW.au fokW 2 [] ⟨[(1, .d (.sl 1 (List.map e47 l))), (2, .d (I weight)), (3, .d (I lean)), (4, .ptr 0 0), (9, .d (I i)), (10, .d (I i)), (11, .d (.sl 1 (List.map e47 l)))], [(0, .var 25 (cv25 b))], 1, Fr.emp, [], 0⟩ (by kernel_rfl) ?_
    refine RW.one fokW (r_lenX trivial rfl lenm (r_end ?_))
    refine RW.au fokW 1 [] ⟨[(1, .d (.sl 1 (List.map e47 l))), (2, .d (I weight)), (3, .d (I lean)), (4, .ptr 0 0), (9, .d (I i)), (13, .d (.bool (decide (i < (l.length : Int)))))], [(0, .var 25 (cv25 b))], 1, Fr.emp, [], 0⟩ (by kernel_rfl) ?_
    refine RW.nil ?_
    refine hQ_11 _ ?_
    refine AW.cond rfl (fun hb_12 => False.elim (by have := of_decide_eq_true hb_12; omega)) (fun hb_12 => ?_)
    refine AW.exit ?_
    refine hK_1 _ ?_
    refine AW.sa fokW [] ⟨[(8, .d (.bool true))], [], 1, Fr.emp, [], 0⟩ (by kernel_rfl) ?_
    obtain rfl := Option.some.inj h
    exact AW.ret (hR_0 _ (retX (.cons (.tmp rfl) .nil) (.refl _) rfl (by kernel_rfl) (by kernel_rfl)))
def g49 (n : Int) : Option Span := some (Span.mk n n)
theorem k49 (n : Int) (r : Span) (h : g49 n = some r) : SCall Tryd.prog Gs 49 [.d (I n)] [] 0 Fr.emp (.agg [.d (I r.Low), .d (I r.High)]) [] 0 Fr.emp := by
  unfold g49 at h
  refine SCall.mkK Tryd.func49 c49 rfl rfl (by kernel_rfl) (fun Q_0 hR_0 hN_0 => ?_)
  refine AW.sa fokW [] ⟨[(0, .d (I n)), (2, .ptr 0 0)], [(0, .var 42 [.d (I 0), .d (I 0)])], 1, Fr.emp, [], 0⟩ (by kernel_rfl) ?_
  refine AW.sa fokW [] ⟨[(2, .ptr 0 0)], [(0, .var 42 [.d (I n), .d (I n)])], 1, Fr.emp, [], 0⟩ (by kernel_rfl) ?_
  obtain rfl := Option.some.inj h
  exact AW.ret (hR_0 _ (retX (.cons (.agg rfl rfl (Nat.le_of_ble_eq_true rfl)) .nil) (.refl _) rfl (by kernel_rfl) (by kernel_rfl)))
def g30_13 (b : StandBook) (weight : Int) (r0_4 : (List (List Int))) : Int → Option (Ctl (Int) (Int)) := fun  Low1 => (bif (decide ((wr (-b.Lean_)) < Low1)) then ((g79 b r0_4 weight (wr (Low1 - 1))).bind fun r0_2_1 => some r0_2_1) else (some false)).bind fun v => bif v then (some (.next (wr (Low1 - 1)))) else (some (.brk Low1))
def g30_21 (b : StandBook) (weight : Int) (r0_4 : (List (List Int))) : Int → Option (Ctl (Int) (Int)) := fun  High1 => (bif (decide (High1 < b.Lean_)) then ((g79 b r0_4 weight (wr (High1 + 1))).bind fun r0_2_2 => some r0_2_2) else (some false)).bind fun v1 => bif v1 then (some (.next (wr (High1 + 1)))) else (some (.brk High1))
def g30 (b : StandBook) (weight : Int) : Option (Span × Int) := (g65 b weight).bind fun r0_1 => (g71 b r0_1).bind fun (r0_4, r1_3) => bif (decide (r1_3 ≠ 0)) then (some ((Span.mk 0 0), r1_3)) else ((g79 b r0_4 weight 0).bind fun r0_2 => bif (!r0_2) then (some ((Span.mk 0 0), 4)) else ((g49 0).bind fun r0 => (whileC (g30_13 b weight r0_4) 1000 r0.Low).bind fun Low => (whileC (g30_21 b weight r0_4) 1000 r0.High).bind fun High => some ((Span.mk Low High), 0)))
theorem k30 (b : StandBook) (weight : Int) (r : Span × Int) (h : g30 b weight = some r) : SCall Tryd.prog Gs 30 [.agg (cv25 b), .d (I weight)] [] 0 Fr.emp (match r with | (r0_6, r1_2) => .tup [.agg [.d (I r0_6.Low), .d (I r0_6.High)], .d (I r1_2)]) [] 0 Fr.emp := by
  unfold g30 at h
  refine SCall.mkK Tryd.func30 c30 rfl rfl (by kernel_rfl) (fun Q_0 hR_0 hN_0 => ?_)
  refine AW.sa fokW [] ⟨[(1, .d (I weight)), (2, .ptr 0 0), (4, .ptr 1 0)], [(1, .var 42 [.d (I 0), .d (I 0)]), (0, .var 25 (cv25 b))], 2, Fr.emp, [], 0⟩ (by kernel_rfl) ?_
  refine AW.sdrwK fokW (fun Q_1 hQ_1 => ?_)
  refine RunC.auX 3 ⟨[(1, .d (I weight)), (2, .ptr 0 0), (4, .ptr 1 0), (10, .agg (cv25 b)), (11, .agg (cv25 b)), (12, .d (I weight))], [(1, .var 42 [.d (I 0), .d (I 0)]), (0, .var 25 (cv25 b))], 2, Fr.emp, [], 0⟩ (by kernel_rfl) ?_
  obtain ⟨r0_1, hx_2, h⟩ := bsome h
  refine r_call trivial rfl (k65 b weight _ hx_2) rfl rfl ?_
  obtain ⟨⟨r0_4, r1_3⟩, hx_3, h⟩ := bsome h
  refine r_call trivial rfl (k71 b r0_1 _ hx_3) rfl rfl ?_
  refine RunC.auX 5 ⟨[(1, .d (I weight)), (2, .ptr 0 0), (4, .ptr 1 0), (6, .d (.sl 1 (List.map e47 r0_4))), (7, .d (I r1_3))], [(1, .var 42 [.d (I 0), .d (I 0)]), (0, .var 25 (cv25 b))], 2, Fr.emp, [], 0⟩ (by kernel_rfl) ?_
  refine RunC.fin ⟨[(1, .d (I weight)), (2, .ptr 0 0), (4, .ptr 1 0), (6, .d (.sl 1 (List.map e47 r0_4))), (7, .d (I r1_3))], [(1, .var 42 [.d (I 0), .d (I 0)]), (0, .var 25 (cv25 b))], 2, Fr.emp, [], 0⟩ (by kernel_rfl) (by kernel_rfl) ?_
  refine hQ_1 _ ?_
  refine AW.seqK (fun K_4 hK_4 => ?_)
  refine AW.sa fokW [] ⟨[(1, .d (I weight)), (2, .ptr 0 0), (4, .ptr 1 0), (6, .d (.sl 1 (List.map e47 r0_4))), (7, .d (I r1_3)), (18, .d (.bool (decide (r1_3 ≠ 0))))], [(1, .var 42 [.d (I 0), .d (I 0)]), (0, .var 25 (cv25 b))], 2, Fr.emp, [], 0⟩ (by kernel_rfl) ?_
  refine AW.cond rfl (fun hb_5 => ?_) (fun hb_5 => ?_)
  · have h := ifT hb_5 h
    refine AW.sa fokW [] ⟨[(4, .ptr 1 0), (5, .d (I r1_3))], [(1, .var 42 [.d (I 0), .d (I 0)])], 2, Fr.emp, [], 0⟩ (by kernel_rfl) ?_
    obtain rfl := Option.some.inj h
    exact AW.ret (hR_0 _ (retX (.cons (.agg rfl rfl (Nat.le_of_ble_eq_true rfl)) (.cons (.tmp rfl) .nil)) (.refl _) rfl (by kernel_rfl) (by kernel_rfl)))
  · have h := ifF hb_5 h
    refine AW.skip ?_
    refine hK_4 _ ?_
    refine AW.seqK (fun K_6 hK_6 => ?_)
    refine AW.srwK (fun Q_7 hQ_7 => ?_)
    refine RW.au fokW 3 [] ⟨[(1, .d (I weight)), (2, .ptr 0 0), (4, .ptr 1 0), (6, .d (.sl 1 (List.map e47 r0_4))), (21, .agg (cv25 b)), (22, .d (.sl 1 (List.map e47 r0_4))), (23, .d (I weight))], [(1, .var 42 [.d (I 0), .d (I 0)]), (0, .var 25 (cv25 b))], 2, Fr.emp, [], 0⟩ (by kernel_rfl) ?_
    obtain ⟨r0_2, hx_8, h⟩ := bsome h
    refine RW.one fokW (r_call trivial rfl (k79 b r0_4 weight 0 _ hx_8) rfl rfl (r_end ?_))
    refine RW.au fokW 1 [] ⟨[(1, .d (I weight)), (2, .ptr 0 0), (4, .ptr 1 0), (6, .d (.sl 1 (List.map e47 r0_4))), (25, .d (.bool (!r0_2)))], [(1, .var 42 [.d (I 0), .d (I 0)]), (0, .var 25 (cv25 b))], 2, Fr.emp, [], 0⟩ (by kernel_rfl) ?_
    refine RW.nil ?_
    refine hQ_7 _ ?_
    refine AW.cond rfl (fun hb_9 => ?_) (fun hb_9 => ?_)
    · have h := ifT hb_9 h
      refine AW.sa fokW [] ⟨[(4, .ptr 1 0), (5, .d (I 4))], [(1, .var 42 [.d (I 0), .d (I 0)])], 2, Fr.emp, [], 0⟩ (by kernel_rfl) ?_
      obtain rfl := Option.some.inj h
      exact AW.ret (hR_0 _ (retX (.cons (.agg rfl rfl (Nat.le_of_ble_eq_true rfl)) (.cons (.tmp rfl) .nil)) (.refl _) rfl (by kernel_rfl) (by kernel_rfl)))
    · have h := ifF hb_9 h
      refine AW.skip ?_
      refine hK_6 _ ?_
      refine AW.srwK (fun Q_10 hQ_10 => ?_)
      obtain ⟨r0, hx_11, h⟩ := bsome h
      refine RW.one fokW (r_call trivial rfl (k49 0 _ hx_11) rfl rfl (r_end ?_))
      refine RW.au fokW 2 [] ⟨[(1, .d (I weight)), (2, .ptr 0 0), (4, .ptr 1 0), (6, .d (.sl 1 (List.map e47 r0_4))), (8, .ptr 2 0)], [(2, .var 42 [.d (I r0.Low), .d (I r0.High)]), (1, .var 42 [.d (I 0), .d (I 0)]), (0, .var 25 (cv25 b))], 3, Fr.emp, [], 0⟩ (by kernel_rfl) ?_
      refine RW.nil ?_
      refine hQ_10 _ ?_
      obtain ⟨Low, hx_12, h⟩ := bsome h
      refine AW.jnSK (fun (Low : Int) => ⟨[(1, .d (I weight)), (2, .ptr 0 0), (4, .ptr 1 0), (6, .d (.sl 1 (List.map e47 r0_4))), (8, .ptr 2 0)], [(2, .var 42 [.d (I Low), .d (I r0.High)]), (1, .var 42 [.d (I 0), .d (I 0)]), (0, .var 25 (cv25 b))], 3, Fr.emp, [], 0⟩) (c := Low) (fun K_12 hK_12 => ?_) ?_
      · have h := hx_12
        refine AW.block ?_
        refine AW.whK (fun (Low1 : Int) => ⟨[(1, .d (I weight)), (2, .ptr 0 0), (4, .ptr 1 0), (6, .d (.sl 1 (List.map e47 r0_4))), (8, .ptr 2 0)], [(2, .var 42 [.d (I Low1), .d (I r0.High)]), (1, .var 42 [.d (I 0), .d (I 0)]), (0, .var 25 (cv25 b))], 3, Fr.emp, [], 0⟩) (g30_13 b weight r0_4) h (Can.kp (by kernel_rfl)) (fun Low1 c_13 h hb_13 K_13 hK_13 => ?_)
        unfold g30_13 at h
        refine AW.seqK (fun K_14 hK_14 => ?_)
        refine AW.srwK (fun Q_15 hQ_15 => ?_)
        refine RW.au fokW 7 [] ⟨[(1, .d (I weight)), (2, .ptr 0 0), (4, .ptr 1 0), (6, .d (.sl 1 (List.map e47 r0_4))), (8, .ptr 2 0), (34, .d (.bool (decide ((wr (-b.Lean_)) < Low1))))], [(2, .var 42 [.d (I Low1), .d (I r0.High)]), (1, .var 42 [.d (I 0), .d (I 0)]), (0, .var 25 (cv25 b))], 3, Fr.emp, [], 0⟩ (by kernel_rfl) ?_
        obtain ⟨v, hx_16, h⟩ := bsome h
        refine RW.cut fokW 8 (⟨[(1, .d (I weight)), (2, .ptr 0 0), (4, .ptr 1 0), (6, .d (.sl 1 (List.map e47 r0_4))), (8, .ptr 2 0), (42, .d (.bool v))], [(2, .var 42 [.d (I Low1), .d (I r0.High)]), (1, .var 42 [.d (I 0), .d (I 0)]), (0, .var 25 (cv25 b))], 3, Fr.emp, [], 0⟩) ?_ ?_
        · refine r_split 34 rfl (fun hb_18 => ?_) (fun hb_18 => ?_)
          · have h := ifT hb_18 hx_16
            refine RunC.auX 6 ⟨[(1, .d (I weight)), (2, .ptr 0 0), (4, .ptr 1 0), (6, .d (.sl 1 (List.map e47 r0_4))), (8, .ptr 2 0), (34, .d (.bool true)), (35, .agg (cv25 b)), (36, .d (.sl 1 (List.map e47 r0_4))), (37, .d (I weight)), (38, .ptr 2 0), (39, .d (I Low1)), (40, .d (I (wr (Low1 - 1))))], [(2, .var 42 [.d (I Low1), .d (I r0.High)]), (1, .var 42 [.d (I 0), .d (I 0)]), (0, .var 25 (cv25 b))], 3, Fr.emp, [], 0⟩ (by kernel_rfl) ?_
            obtain ⟨r0_2_1, hx_17, h⟩ := bsome h
            refine r_call rfl rfl (k79 b r0_4 weight (wr (Low1 - 1)) _ hx_17) rfl rfl ?_
            refine RunC.auX 1 ⟨[(1, .d (I weight)), (2, .ptr 0 0), (4, .ptr 1 0), (6, .d (.sl 1 (List.map e47 r0_4))), (8, .ptr 2 0), (35, .agg (cv25 b)), (36, .d (.sl 1 (List.map e47 r0_4))), (37, .d (I weight)), (38, .ptr 2 0), (39, .d (I Low1)), (40, .d (I (wr (Low1 - 1)))), (41, .d (.bool r0_2_1)), (42, .d (.bool r0_2_1))], [(2, .var 42 [.d (I Low1), .d (I r0.High)]), (1, .var 42 [.d (I 0), .d (I 0)]), (0, .var 25 (cv25 b))], 3, Fr.emp, [], 0⟩ (by kernel_rfl) ?_
            obtain rfl := Option.some.inj h
            refine RunC.finJ (Can.kp (by kernel_rfl))
          · have h := ifF hb_18 hx_16
            refine RunC.auX 8 ⟨[(1, .d (I weight)), (2, .ptr 0 0), (4, .ptr 1 0), (6, .d (.sl 1 (List.map e47 r0_4))), (8, .ptr 2 0), (35, .undef), (36, .undef), (37, .undef), (38, .undef), (39, .undef), (40, .undef), (41, .undef), (42, .d (.bool false))], [(2, .var 42 [.d (I Low1), .d (I r0.High)]), (1, .var 42 [.d (I 0), .d (I 0)]), (0, .var 25 (cv25 b))], 3, Fr.emp, [], 0⟩ (by kernel_rfl) ?_
            obtain rfl := Option.some.inj h
            refine RunC.finJ (Can.kp (by kernel_rfl))
        · refine RW.nil ?_
          refine hQ_15 _ ?_
          refine AW.cond rfl (fun hb_19 => ?_) (fun hb_19 => ?_)
          · have h := ifT hb_19 h
            refine AW.skip ?_
            refine hK_14 _ ?_
            refine AW.block ?_
            refine AW.ra fokW [] ⟨[(1, .d (I weight)), (2, .ptr 0 0), (4, .ptr 1 0), (6, .d (.sl 1 (List.map e47 r0_4))), (8, .ptr 2 0)], [(2, .var 42 [.d (I (wr (Low1 - 1))), .d (I r0.High)]), (1, .var 42 [.d (I 0), .d (I 0)]), (0, .var 25 (cv25 b))], 3, Fr.emp, [], 0⟩ (by kernel_rfl) ?_
            obtain rfl := Option.some.inj h
            exact hK_13 _ _ rfl (Can.kp (by kernel_rfl))
          · have h := ifF hb_19 h
            refine AW.exit ?_
            obtain rfl := Option.some.inj h
            obtain rfl := hb_13 _ rfl
            exact hK_12 _ (Can.kp (by kernel_rfl))
      · obtain ⟨High, hx_20, h⟩ := bsome h
        refine AW.jnSK (fun (High : Int) => ⟨[(4, .ptr 1 0), (8, .ptr 2 0)], [(2, .var 42 [.d (I Low), .d (I High)]), (1, .var 42 [.d (I 0), .d (I 0)])], 3, Fr.emp, [], 0⟩) (c := High) (fun K_20 hK_20 => ?_) ?_
        · have h := hx_20
          refine AW.block ?_
          refine AW.whK (fun (High1 : Int) => ⟨[(1, .d (I weight)), (2, .ptr 0 0), (4, .ptr 1 0), (6, .d (.sl 1 (List.map e47 r0_4))), (8, .ptr 2 0)], [(2, .var 42 [.d (I Low), .d (I High1)]), (1, .var 42 [.d (I 0), .d (I 0)]), (0, .var 25 (cv25 b))], 3, Fr.emp, [], 0⟩) (g30_21 b weight r0_4) h (Can.kp (by kernel_rfl)) (fun High1 c_21 h hb_21 K_21 hK_21 => ?_)
          unfold g30_21 at h
          refine AW.seqK (fun K_22 hK_22 => ?_)
          refine AW.srwK (fun Q_23 hQ_23 => ?_)
          refine RW.au fokW 6 [] ⟨[(1, .d (I weight)), (2, .ptr 0 0), (4, .ptr 1 0), (6, .d (.sl 1 (List.map e47 r0_4))), (8, .ptr 2 0), (52, .d (.bool (decide (High1 < b.Lean_))))], [(2, .var 42 [.d (I Low), .d (I High1)]), (1, .var 42 [.d (I 0), .d (I 0)]), (0, .var 25 (cv25 b))], 3, Fr.emp, [], 0⟩ (by kernel_rfl) ?_
          obtain ⟨v1, hx_24, h⟩ := bsome h
          refine RW.cut fokW 8 (⟨[(1, .d (I weight)), (2, .ptr 0 0), (4, .ptr 1 0), (6, .d (.sl 1 (List.map e47 r0_4))), (8, .ptr 2 0), (60, .d (.bool v1))], [(2, .var 42 [.d (I Low), .d (I High1)]), (1, .var 42 [.d (I 0), .d (I 0)]), (0, .var 25 (cv25 b))], 3, Fr.emp, [], 0⟩) ?_ ?_
          · refine r_split 52 rfl (fun hb_26 => ?_) (fun hb_26 => ?_)
            · have h := ifT hb_26 hx_24
              refine RunC.auX 6 ⟨[(1, .d (I weight)), (2, .ptr 0 0), (4, .ptr 1 0), (6, .d (.sl 1 (List.map e47 r0_4))), (8, .ptr 2 0), (52, .d (.bool true)), (53, .agg (cv25 b)), (54, .d (.sl 1 (List.map e47 r0_4))), (55, .d (I weight)), (56, .ptr 2 1), (57, .d (I High1)), (58, .d (I (wr (High1 + 1))))], [(2, .var 42 [.d (I Low), .d (I High1)]), (1, .var 42 [.d (I 0), .d (I 0)]), (0, .var 25 (cv25 b))], 3, Fr.emp, [], 0⟩ (by kernel_rfl) ?_
              obtain ⟨r0_2_2, hx_25, h⟩ := bsome h
              refine r_call rfl rfl (k79 b r0_4 weight (wr (High1 + 1)) _ hx_25) rfl rfl ?_
              refine RunC.auX 1 ⟨[(1, .d (I weight)), (2, .ptr 0 0), (4, .ptr 1 0), (6, .d (.sl 1 (List.map e47 r0_4))), (8, .ptr 2 0), (53, .agg (cv25 b)), (54, .d (.sl 1 (List.map e47 r0_4))), (55, .d (I weight)), (56, .ptr 2 1), (57, .d (I High1)), (58, .d (I (wr (High1 + 1)))), (59, .d (.bool r0_2_2)), (60, .d (.bool r0_2_2))], [(2, .var 42 [.d (I Low), .d (I High1)]), (1, .var 42 [.d (I 0), .d (I 0)]), (0, .var 25 (cv25 b))], 3, Fr.emp, [], 0⟩ (by kernel_rfl) ?_
              obtain rfl := Option.some.inj h
              refine RunC.finJ (Can.kp (by kernel_rfl))
            · have h := ifF hb_26 hx_24
              refine RunC.auX 8 ⟨[(1, .d (I weight)), (2, .ptr 0 0), (4, .ptr 1 0), (6, .d (.sl 1 (List.map e47 r0_4))), (8, .ptr 2 0), (53, .undef), (54, .undef), (55, .undef), (56, .undef), (57, .undef), (58, .undef), (59, .undef), (60, .d (.bool false))], [(2, .var 42 [.d (I Low), .d (I High1)]), (1, .var 42 [.d (I 0), .d (I 0)]), (0, .var 25 (cv25 b))], 3, Fr.emp, [], 0⟩ (by kernel_rfl) ?_
              obtain rfl := Option.some.inj h
              refine RunC.finJ (Can.kp (by kernel_rfl))
          · refine RW.nil ?_
            refine hQ_23 _ ?_
            refine AW.cond rfl (fun hb_27 => ?_) (fun hb_27 => ?_)
            · have h := ifT hb_27 h
              refine AW.skip ?_
              refine hK_22 _ ?_
              refine AW.block ?_
              refine AW.ra fokW [] ⟨[(1, .d (I weight)), (2, .ptr 0 0), (4, .ptr 1 0), (6, .d (.sl 1 (List.map e47 r0_4))), (8, .ptr 2 0)], [(2, .var 42 [.d (I Low), .d (I (wr (High1 + 1)))]), (1, .var 42 [.d (I 0), .d (I 0)]), (0, .var 25 (cv25 b))], 3, Fr.emp, [], 0⟩ (by kernel_rfl) ?_
              obtain rfl := Option.some.inj h
              exact hK_21 _ _ rfl (Can.kp (by kernel_rfl))
            · have h := ifF hb_27 h
              refine AW.exit ?_
              obtain rfl := Option.some.inj h
              obtain rfl := hb_21 _ rfl
              exact hK_20 _ (Can.kp (by kernel_rfl))
        · refine AW.sa fokW [] ⟨[(4, .ptr 1 0), (5, .d (I 0))], [(1, .var 42 [.d (I Low), .d (I High)])], 3, Fr.emp, [], 0⟩ (by kernel_rfl) ?_
          obtain rfl := Option.some.inj h
          exact AW.ret (hR_0 _ (retX (.cons (.agg rfl rfl (Nat.le_of_ble_eq_true rfl)) (.cons (.tmp rfl) .nil)) (.refl _) rfl (by kernel_rfl) (by kernel_rfl)))
def g4 (b : StandBook) (weight : Int) : Option Bool := (g25 b weight).bind fun (r0_4, r1_4) => (g26 b weight).bind fun (r0_3, r1_1) => bif ((true != (r0_4 == r0_3)) || (decide (r1_4 ≠ r1_1))) then (some false) else ((g27 b).bind fun (r0_4_1, r1_5) => (g28 b).bind fun (r0_3_1, r1_2) => bif ((decide (r0_4_1 ≠ r0_3_1)) || (decide (r1_5 ≠ r1_2))) then (some false) else ((g29 b weight).bind fun (r0_4_2, r1_5_1) => (g30 b weight).bind fun (r0_6, r1_2_1) => (bif ((false != ((r0_4_2.Low == r0_6.Low) && ((r0_4_2.High == r0_6.High) && true))) && (decide (r1_5_1 = r1_2_1))) then ((g24).bind fun t2 => some t2) else (some false)).bind fun v => some v))
theorem k4 (b : StandBook) (weight : Int) (r : Bool) (h : g4 b weight = some r) : SCall Tryd.prog Gs 4 [.agg (cv25 b), .d (I weight)] [] 0 Fr.emp (.d (.bool r)) [] 0 Fr.emp := by
  unfold g4 at h
  refine SCall.mkK Tryd.func4 c4 rfl rfl (by kernel_rfl) (fun Q_0 hR_0 hN_0 => ?_)
  refine AW.sa fokW [] ⟨[(1, .d (I weight)), (2, .ptr 0 0)], [(0, .var 25 (cv25 b))], 1, Fr.emp, [], 0⟩ (by kernel_rfl) ?_
  refine AW.srwK (fun Q_1 hQ_1 => ?_)
  refine RW.au fokW 2 [] ⟨[(1, .d (I weight)), (2, .ptr 0 0), (14, .agg (cv25 b)), (15, .d (I weight))], [(0, .var 25 (cv25 b))], 1, Fr.emp, [], 0⟩ (by kernel_rfl) ?_
  obtain ⟨⟨r0_4, r1_4⟩, hx_2, h⟩ := bsome h
  refine RW.one fokW (r_call trivial rfl (k25 b weight _ hx_2) rfl rfl (r_end ?_))
  refine RW.au fokW 5 [] ⟨[(1, .d (I weight)), (2, .ptr 0 0), (5, .d (.bool r0_4)), (6, .d (I r1_4))], [(0, .var 25 (cv25 b))], 1, Fr.emp, [], 0⟩ (by kernel_rfl) ?_
  refine RW.nil ?_
  refine hQ_1 _ ?_
  refine AW.srwK (fun Q_3 hQ_3 => ?_)
  refine RW.au fokW 2 [] ⟨[(1, .d (I weight)), (2, .ptr 0 0), (5, .d (.bool r0_4)), (6, .d (I r1_4)), (20, .agg (cv25 b)), (21, .d (I weight))], [(0, .var 25 (cv25 b))], 1, Fr.emp, [], 0⟩ (by kernel_rfl) ?_
  obtain ⟨⟨r0_3, r1_1⟩, hx_4, h⟩ := bsome h
  refine RW.one fokW (r_call trivial rfl (k26 b weight _ hx_4) rfl rfl (r_end ?_))
  refine RW.au fokW 5 [] ⟨[(1, .d (I weight)), (2, .ptr 0 0), (5, .d (.bool r0_4)), (6, .d (I r1_4)), (7, .d (.bool r0_3)), (8, .d (I r1_1))], [(0, .var 25 (cv25 b))], 1, Fr.emp, [], 0⟩ (by kernel_rfl) ?_
  refine RW.nil ?_
  refine hQ_3 _ ?_
  refine AW.seqK (fun K_5 hK_5 => ?_)
  refine AW.sa fokW [28] ⟨[(1, .d (I weight)), (2, .ptr 0 0), (32, .d (.bool ((true != (r0_4 == r0_3)) || (decide (r1_4 ≠ r1_1)))))], [(0, .var 25 (cv25 b))], 1, Fr.emp, [], 0⟩ (by kernel_rfl) ?_
  refine AW.cond rfl (fun hb_6 => ?_) (fun hb_6 => ?_)
  · have h := ifT hb_6 h
    refine AW.sa fokW [] ⟨[(4, .d (.bool false))], [], 1, Fr.emp, [], 0⟩ (by kernel_rfl) ?_
    obtain rfl := Option.some.inj h
    exact AW.ret (hR_0 _ (retX (.cons (.tmp rfl) .nil) (.refl _) rfl (by kernel_rfl) (by kernel_rfl)))
  · have h := ifF hb_6 h
    refine AW.skip ?_
    refine hK_5 _ ?_
    refine AW.srwK (fun Q_7 hQ_7 => ?_)
    refine RW.au fokW 1 [] ⟨[(1, .d (I weight)), (2, .ptr 0 0), (34, .agg (cv25 b))], [(0, .var 25 (cv25 b))], 1, Fr.emp, [], 0⟩ (by kernel_rfl) ?_
    obtain ⟨⟨r0_4_1, r1_5⟩, hx_8, h⟩ := bsome h
    refine RW.one fokW (r_call trivial rfl (k27 b _ hx_8) rfl rfl (r_end ?_))
    refine RW.au fokW 5 [] ⟨[(1, .d (I weight)), (2, .ptr 0 0), (6, .d (I r1_5)), (9, .d (I r0_4_1))], [(0, .var 25 (cv25 b))], 1, Fr.emp, [], 0⟩ (by kernel_rfl) ?_
    refine RW.nil ?_
    refine hQ_7 _ ?_
    refine AW.srwK (fun Q_9 hQ_9 => ?_)
    refine RW.au fokW 1 [] ⟨[(1, .d (I weight)), (2, .ptr 0 0), (6, .d (I r1_5)), (9, .d (I r0_4_1)), (39, .agg (cv25 b))], [(0, .var 25 (cv25 b))], 1, Fr.emp, [], 0⟩ (by kernel_rfl) ?_
    obtain ⟨⟨r0_3_1, r1_2⟩, hx_10, h⟩ := bsome h
    refine RW.one fokW (r_call trivial rfl (k28 b _ hx_10) rfl rfl (r_end ?_))
    refine RW.au fokW 5 [] ⟨[(1, .d (I weight)), (2, .ptr 0 0), (6, .d (I r1_5)), (8, .d (I r1_2)), (9, .d (I r0_4_1)), (10, .d (I r0_3_1))], [(0, .var 25 (cv25 b))], 1, Fr.emp, [], 0⟩ (by kernel_rfl) ?_
    refine RW.nil ?_
    refine hQ_9 _ ?_
    refine AW.seqK (fun K_11 hK_11 => ?_)
    refine AW.sa fokW [46] ⟨[(1, .d (I weight)), (2, .ptr 0 0), (50, .d (.bool ((decide (r0_4_1 ≠ r0_3_1)) || (decide (r1_5 ≠ r1_2)))))], [(0, .var 25 (cv25 b))], 1, Fr.emp, [], 0⟩ (by kernel_rfl) ?_
    refine AW.cond rfl (fun hb_12 => ?_) (fun hb_12 => ?_)
    · have h := ifT hb_12 h
      refine AW.sa fokW [] ⟨[(4, .d (.bool false))], [], 1, Fr.emp, [], 0⟩ (by kernel_rfl) ?_
      obtain rfl := Option.some.inj h
      exact AW.ret (hR_0 _ (retX (.cons (.tmp rfl) .nil) (.refl _) rfl (by kernel_rfl) (by kernel_rfl)))
    · have h := ifF hb_12 h
      refine AW.skip ?_
      refine hK_11 _ ?_
      refine AW.srwK (fun Q_13 hQ_13 => ?_)
      refine RW.au fokW 2 [] ⟨[(1, .d (I weight)), (2, .ptr 0 0), (52, .agg (cv25 b)), (53, .d (I weight))], [(0, .var 25 (cv25 b))], 1, Fr.emp, [], 0⟩ (by kernel_rfl) ?_
      obtain ⟨⟨r0_4_2, r1_5_1⟩, hx_14, h⟩ := bsome h
      refine RW.one fokW (r_call trivial rfl (k29 b weight _ hx_14) rfl rfl (r_end ?_))
      refine RW.au fokW 6 [] ⟨[(1, .d (I weight)), (2, .ptr 0 0), (6, .d (I r1_5_1)), (11, .ptr 1 0)], [(1, .var 42 [.d (I r0_4_2.Low), .d (I r0_4_2.High)]), (0, .var 25 (cv25 b))], 2, Fr.emp, [], 0⟩ (by kernel_rfl) ?_
      refine RW.nil ?_
      refine hQ_13 _ ?_
      refine AW.srwK (fun Q_15 hQ_15 => ?_)
      refine RW.au fokW 2 [] ⟨[(6, .d (I r1_5_1)), (11, .ptr 1 0), (58, .agg (cv25 b)), (59, .d (I weight))], [(1, .var 42 [.d (I r0_4_2.Low), .d (I r0_4_2.High)])], 2, Fr.emp, [], 0⟩ (by kernel_rfl) ?_
      obtain ⟨⟨r0_6, r1_2_1⟩, hx_16, h⟩ := bsome h
      refine RW.one fokW (r_call trivial rfl (k30 b weight _ hx_16) rfl rfl (r_end ?_))
      refine RW.au fokW 6 [] ⟨[(6, .d (I r1_5_1)), (8, .d (I r1_2_1)), (11, .ptr 1 0), (12, .ptr 2 0)], [(2, .var 42 [.d (I r0_6.Low), .d (I r0_6.High)]), (1, .var 42 [.d (I r0_4_2.Low), .d (I r0_4_2.High)])], 3, Fr.emp, [], 0⟩ (by kernel_rfl) ?_
      refine RW.nil ?_
      refine hQ_15 _ ?_
      refine AW.srwK (fun Q_17 hQ_17 => ?_)
      refine RW.au fokW 2 [] ⟨[(6, .d (I r1_5_1)), (8, .d (I r1_2_1)), (63, .agg [.d (I r0_4_2.Low), .d (I r0_4_2.High)]), (64, .agg [.d (I r0_6.Low), .d (I r0_6.High)])], [], 3, Fr.emp, [], 0⟩ (by kernel_rfl) ?_
      refine RW.one fokW (r_aeq trivial rfl rfl rfl rfl ft42 rfl rfl rfl (r_end ?_))
      refine RW.au fokW 6 [66] ⟨[(71, .d (.bool ((false != ((r0_4_2.Low == r0_6.Low) && ((r0_4_2.High == r0_6.High) && true))) && (decide (r1_5_1 = r1_2_1)))))], [], 3, Fr.emp, [], 0⟩ (by kernel_rfl) ?_
      obtain ⟨v, hx_18, h⟩ := bsome h
      refine RW.cut fokW 2 (⟨[(73, .d (.bool v))], [], 0, Fr.emp, [], 0⟩) ?_ ?_
      · refine r_split 71 rfl (fun hb_20 => ?_) (fun hb_20 => ?_)
        · have h := ifT hb_20 hx_18
          obtain ⟨t2, hx_19, h⟩ := bsome h
          refine r_call rfl rfl (k24 _ hx_19) rfl rfl ?_
          refine RunC.auX 1 ⟨[(73, .d (.bool t2))], [], 3, Fr.emp, [], 0⟩ (by kernel_rfl) ?_
          obtain rfl := Option.some.inj h
          refine RunC.finJ (Can.kp (by kernel_rfl))
        · have h := ifF hb_20 hx_18
          refine RunC.auX 2 ⟨[(73, .d (.bool false))], [], 3, Fr.emp, [], 0⟩ (by kernel_rfl) ?_
          obtain rfl := Option.some.inj h
          refine RunC.finJ (Can.kp (by kernel_rfl))
      · refine RW.au fokW 1 [] ⟨[(4, .d (.bool v))], [], 0, Fr.emp, [], 0⟩ (by kernel_rfl) ?_
        refine RW.nil ?_
        refine hQ_17 _ ?_
        obtain rfl := Option.some.inj h
        exact AW.ret (hR_0 _ (retX (.cons (.tmp rfl) .nil) (.refl _) rfl (by kernel_rfl) (by kernel_rfl)))
end Go.Proofs.Tz
