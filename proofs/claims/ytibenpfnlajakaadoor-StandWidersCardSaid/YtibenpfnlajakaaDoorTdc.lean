/- Told functions, and that the program does so, part 3. Conditions: none. -/
import Derived.Test.YtibenpfnlajakaaDoorTdb
set_option linter.unusedVariables false
set_option linter.unusedSimpArgs false
namespace Go.Proofs.Tz
open Go Go.Abs Go.Proofs
def g37_4 (l : (List Int)) (m : (List Int)) : (Bool × Int) → Option (Ctl (Bool × Int) (Bool)) := fun  (is2, i) => (bif is2 then (some (decide (i < (l.length : Int)))) else (some false)).bind fun v => bif v then ((ixL l i).bind fun p => (ixL m i).bind fun p1 => some (.next ((decide (p = p1)), (wr (i + 1))))) else (some (.brk is2))
def g37 (l : (List Int)) (m : (List Int)) : Option Bool := ((whileC (g37_4 l m) 1000 ((decide ((l.length : Int) = (m.length : Int))), 0)).bind fun is1 => some is1).bind fun is => some is
theorem k37 (l : (List Int)) (m : (List Int)) (r : Bool) (h : g37 l m = some r) : SCall Tryd.prog Gs 37 [.d (.sl 1 (List.map e3 l)), .d (.sl 1 (List.map e3 m))] [] 0 Fr.emp (.d (.bool r)) [] 0 Fr.emp := by
 unfold g37 at h
 refine SCall.mkK Tryd.func37 c37 rfl rfl (by kernel_rfl) (fun Q_0 hR_0 hN_0 => ?_)
 refine AW.sa fokW [] ⟨[(0, .d (.sl 1 (List.map e3 l))), (1, .d (.sl 1 (List.map e3 m)))], [], 0, Fr.emp, [], 0⟩ (by kernel_rfl) ?_
 refine AW.srwK (fun Q_1 hQ_1 => ?_)
 refine RW.au fokW 1 [] ⟨[(0, .d (.sl 1 (List.map e3 l))), (1, .d (.sl 1 (List.map e3 m))), (7, .d (.sl 1 (List.map e3 l)))], [], 0, Fr.emp, [], 0⟩ (by kernel_rfl) ?_
 refine RW.one fokW (r_lenX trivial rfl lenm (r_end ?_))
 refine RW.au fokW 1 [] ⟨[(0, .d (.sl 1 (List.map e3 l))), (1, .d (.sl 1 (List.map e3 m))), (8, .d (I (l.length : Int))), (9, .d (.sl 1 (List.map e3 m)))], [], 0, Fr.emp, [], 0⟩ (by kernel_rfl) ?_
 refine RW.one fokW (r_lenX trivial rfl lenm (r_end ?_))
 refine RW.au fokW 2 [] ⟨[(0, .d (.sl 1 (List.map e3 l))), (1, .d (.sl 1 (List.map e3 m))), (5, .d (.bool (decide ((l.length : Int) = (m.length : Int)))))], [], 0, Fr.emp, [], 0⟩ (by kernel_rfl) ?_
 refine RW.nil ?_
 refine hQ_1 _ ?_
 obtain ⟨is, hx_2, h⟩ := bsome h
 refine AW.jnSK (fun (is : Bool) => ⟨[(5, .d (.bool is))], [], 0, Fr.emp, [], 0⟩) (c := is) (fun K_2 hK_2 => ?_) ?_
 ·have h := hx_2
  refine AW.sa fokW [] ⟨[(0, .d (.sl 1 (List.map e3 l))), (1, .d (.sl 1 (List.map e3 m))), (5, .d (.bool (decide ((l.length : Int) = (m.length : Int))))), (6, .d (I 0))], [], 0, Fr.emp, [], 0⟩ (by kernel_rfl) ?_
  obtain ⟨is1, hx_3, h⟩ := bsome h
  refine AW.jqSK (fun (is1 : Bool) => ⟨[(5, .d (.bool is1))], [], 0, Fr.emp, [], 0⟩) (c := is1) (fun K_3 hK_3 => ?_) ?_
  ·have h := hx_3
   refine AW.block ?_
   refine AW.whK (fun (⟨is2, i⟩ : Bool × Int) => ⟨[(0, .d (.sl 1 (List.map e3 l))), (1, .d (.sl 1 (List.map e3 m))), (5, .d (.bool is2)), (6, .d (I i))], [], 0, Fr.emp, [], 0⟩) (g37_4 l m) h (Can.kp (by kernel_rfl)) (fun s_4 c_4 h hb_4 K_4 hK_4 => ?_)
   obtain ⟨is2, i⟩ := s_4
   unfold g37_4 at h
   refine AW.seqK (fun K_5 hK_5 => ?_)
   refine AW.srwK (fun Q_6 hQ_6 => ?_)
   refine RW.au fokW 2 [] ⟨[(0, .d (.sl 1 (List.map e3 l))), (1, .d (.sl 1 (List.map e3 m))), (5, .d (.bool is2)), (6, .d (I i)), (13, .d (.bool is2))], [], 0, Fr.emp, [], 0⟩ (by kernel_rfl) ?_
   obtain ⟨v, hx_7, h⟩ := bsome h
   refine RW.cut fokW 5 (⟨[(0, .d (.sl 1 (List.map e3 l))), (1, .d (.sl 1 (List.map e3 m))), (5, .d (.bool is2)), (6, .d (I i)), (18, .d (.bool v))], [], 0, Fr.emp, [], 0⟩) ?_ ?_
   ·refine r_split 13 rfl (fun hb_8 => ?_) (fun hb_8 => ?_)
    ·have h := ifT hb_8 hx_7
     refine RunC.auX 2 ⟨[(0, .d (.sl 1 (List.map e3 l))), (1, .d (.sl 1 (List.map e3 m))), (5, .d (.bool is2)), (6, .d (I i)), (13, .d (.bool true)), (14, .d (I i)), (15, .d (.sl 1 (List.map e3 l)))], [], 0, Fr.emp, [], 0⟩ (by kernel_rfl) ?_
     refine r_lenX rfl rfl lenm ?_
     refine RunC.auX 2 ⟨[(0, .d (.sl 1 (List.map e3 l))), (1, .d (.sl 1 (List.map e3 m))), (5, .d (.bool is2)), (6, .d (I i)), (14, .d (I i)), (15, .d (.sl 1 (List.map e3 l))), (16, .d (I (l.length : Int))), (17, .d (.bool (decide (i < (l.length : Int))))), (18, .d (.bool (decide (i < (l.length : Int)))))], [], 0, Fr.emp, [], 0⟩ (by kernel_rfl) ?_
     obtain rfl := Option.some.inj h
     refine RunC.finJ (Can.kp (by kernel_rfl))
    ·have h := ifF hb_8 hx_7
     refine RunC.auX 5 ⟨[(0, .d (.sl 1 (List.map e3 l))), (1, .d (.sl 1 (List.map e3 m))), (5, .d (.bool is2)), (6, .d (I i)), (14, .undef), (15, .undef), (16, .undef), (17, .undef), (18, .d (.bool false))], [], 0, Fr.emp, [], 0⟩ (by kernel_rfl) ?_
     obtain rfl := Option.some.inj h
     refine RunC.finJ (Can.kp (by kernel_rfl))
   ·refine RW.nil ?_
    refine hQ_6 _ ?_
    refine AW.cond rfl (fun hb_9 => ?_) (fun hb_9 => ?_)
    ·have h := ifT hb_9 h
     refine AW.skip ?_
     refine hK_5 _ ?_
     refine AW.seqK (fun K_10 hK_10 => ?_)
     refine AW.block ?_
     refine AW.drw fokW ?_
     refine RunC.auX 2 ⟨[(0, .d (.sl 1 (List.map e3 l))), (1, .d (.sl 1 (List.map e3 m))), (6, .d (I i)), (21, .d (.sl 1 (List.map e3 l))), (22, .d (I i))], [], 0, Fr.emp, [], 0⟩ (by kernel_rfl) ?_
     obtain ⟨p, hv_12, h⟩ := bsome h
     refine r_iaD trivial rfl rfl (ixL_ok hv_12).1 (row := e3 p) (mapget (ixL_ok hv_12).2) ?_
     refine RunC.auX 3 ⟨[(0, .d (.sl 1 (List.map e3 l))), (1, .d (.sl 1 (List.map e3 m))), (6, .d (I i)), (24, .d (I p)), (25, .d (.sl 1 (List.map e3 m))), (26, .d (I i))], [], 0, Fr.emp, [], 0⟩ (by kernel_rfl) ?_
     obtain ⟨p1, hv_13, h⟩ := bsome h
     refine r_iaD trivial rfl rfl (ixL_ok hv_13).1 (row := e3 p1) (mapget (ixL_ok hv_13).2) ?_
     refine RunC.auX 3 ⟨[(0, .d (.sl 1 (List.map e3 l))), (1, .d (.sl 1 (List.map e3 m))), (5, .d (.bool (decide (p = p1)))), (6, .d (I i))], [], 0, Fr.emp, [], 0⟩ (by kernel_rfl) ?_
     refine RunC.fin ⟨[(0, .d (.sl 1 (List.map e3 l))), (1, .d (.sl 1 (List.map e3 m))), (5, .d (.bool (decide (p = p1)))), (6, .d (I i))], [], 0, Fr.emp, [], 0⟩ (by kernel_rfl) (by kernel_rfl) ?_
     refine hK_10 _ ?_
     refine AW.ra fokW [] ⟨[(0, .d (.sl 1 (List.map e3 l))), (1, .d (.sl 1 (List.map e3 m))), (5, .d (.bool (decide (p = p1)))), (6, .d (I (wr (i + 1))))], [], 0, Fr.emp, [], 0⟩ (by kernel_rfl) ?_
     obtain rfl := Option.some.inj h
     exact hK_4 _ _ rfl (Can.kp (by kernel_rfl))
    ·have h := ifF hb_9 h
     refine AW.exit ?_
     obtain rfl := Option.some.inj h
     obtain rfl := hb_4 _ rfl
     exact hK_3 _ (Can.kp (by kernel_rfl))
  ·obtain rfl := Option.some.inj h
   exact hK_2 _ (Can.kp (by kernel_rfl))
 ·refine AW.sa fokW [] ⟨[(4, .d (.bool is))], [], 0, Fr.emp, [], 0⟩ (by kernel_rfl) ?_
  obtain rfl := Option.some.inj h
  exact AW.ret (hR_0 _ (retX (.cons (.tmp rfl) .nil) (.refl _) rfl (by kernel_rfl) (by kernel_rfl)))
def g24  : Option Bool := (g55).bind fun r0 => (g20 r0 20 (-8)).bind fun (r0_6, r1_6) => (g55).bind fun r0_1 => (g22 r0_1 10 (-8)).bind fun (r0_3, r1_4) => (g59).bind fun r0_1_1 => (g27 r0_1_1).bind fun (r0_4, r1_5) => (g55).bind fun r0_2 => (g29 r0_2 20).bind fun (r0_4_1, r1_5_1) => (g55).bind fun r0_5 => (g31 r0_5 10).bind fun (r0_5_1, r1_5_2) => bindC ((bif (decide (r1_6 ≠ 0)) then (some true) else (bif (decide (r1_4 ≠ 0)) then (some true) else (bif (decide (r1_5 ≠ 0)) then (some true) else (bif (decide (r1_5_1 ≠ 0)) then (some true) else (bif (decide (r1_5_2 ≠ 0)) then (some true) else (bif (decide (r0_6 ≠ 1)) then (some true) else ((g60 38 17).bind fun r0_7 => bif (true != ((r0_3.Top == r0_7.Top) && ((r0_3.Bottom == r0_7.Bottom) && true))) then (some true) else (bif (decide (r0_4 ≠ 22)) then (some true) else ((g46 (-7) 8).bind fun r0_8 => bif (true != ((r0_4_1.Low == r0_8.Low) && ((r0_4_1.High == r0_8.High) && true))) then (some true) else (some (decide (r0_5_1 ≠ 6)))))))))))).bind fun v => bif v then (some (.brk false)) else (some (.next ())) : Option (Ctl (Unit) (Bool))) fun _ => (g55).bind fun r0_9 => (g33 r0_9).bind fun (r0_4_2, r1_5_3) => (g58).bind fun r0_3_1 => (g35 r0_3_1).bind fun (r0_2_1, r1_2) => (g55).bind fun r0_10 => (g25 r0_10 19).bind fun (r0_4_3, r1_4_1) => (g55).bind fun r0_11 => (g16 r0_11).bind fun (r0_1_2, r1_1) => (g56).bind fun r0_1_3 => (g22 r0_1_3 30 (-8)).bind fun (r0_3_2, r1_4_2) => (bif (decide (r1_5_3 = 0)) then (bif (decide (r1_2 = 0)) then (bif (decide (r1_4_1 = 0)) then (bif (decide (r1_1 = 0)) then (bif (decide (r1_4_2 = 0)) then (bif (decide (r0_4_2 = 2)) then ((g37 r0_2_1 [0]).bind fun r0_12 => bif r0_12 then (bif r0_4_3 then (bif r0_1_2 then ((g60 (-200) 9).bind fun r0_13 => some (false != ((r0_3_2.Top == r0_13.Top) && ((r0_3_2.Bottom == r0_13.Bottom) && true)))) else (some false)) else (some false)) else (some false)) else (some false)) else (some false)) else (some false)) else (some false)) else (some false)) else (some false)).bind fun t => some t
theorem k24  (r : Bool) (h : g24 = some r) : SCall Tryd.prog Gs 24 [] [] 0 Fr.emp (.d (.bool r)) [] 0 Fr.emp := by
 unfold g24 at h
 refine SCall.mkK Tryd.func24 c24 rfl rfl (by kernel_rfl) (fun Q_0 hR_0 hN_0 => ?_)
 refine AW.sa fokW [] ⟨[], [], 0, Fr.emp, [], 0⟩ (by kernel_rfl) ?_
 refine AW.srwK (fun Q_1 hQ_1 => ?_)
 obtain ⟨r0, hx_2, h⟩ := bsome h
 refine RW.one fokW (r_call trivial rfl (k55 _ hx_2) rfl rfl (r_end ?_))
 obtain ⟨⟨r0_6, r1_6⟩, hx_3, h⟩ := bsome h
 refine RW.one fokW (r_call trivial rfl (k20 r0 20 (-8) _ hx_3) rfl rfl (r_end ?_))
 refine RW.au fokW 5 [] ⟨[(1, .d (I r0_6)), (2, .d (I r1_6))], [], 0, Fr.emp, [], 0⟩ (by kernel_rfl) ?_
 refine RW.nil ?_
 refine hQ_1 _ ?_
 refine AW.srwK (fun Q_4 hQ_4 => ?_)
 obtain ⟨r0_1, hx_5, h⟩ := bsome h
 refine RW.one fokW (r_call trivial rfl (k55 _ hx_5) rfl rfl (r_end ?_))
 obtain ⟨⟨r0_3, r1_4⟩, hx_6, h⟩ := bsome h
 refine RW.one fokW (r_call trivial rfl (k22 r0_1 10 (-8) _ hx_6) rfl rfl (r_end ?_))
 refine RW.au fokW 6 [] ⟨[(1, .d (I r0_6)), (2, .d (I r1_6)), (3, .ptr 0 0), (4, .d (I r1_4))], [(0, .var 34 [.d (I r0_3.Top), .d (I r0_3.Bottom)])], 1, Fr.emp, [], 0⟩ (by kernel_rfl) ?_
 refine RW.nil ?_
 refine hQ_4 _ ?_
 refine AW.srwK (fun Q_7 hQ_7 => ?_)
 obtain ⟨r0_1_1, hx_8, h⟩ := bsome h
 refine RW.one fokW (r_call trivial rfl (k59 _ hx_8) rfl rfl (r_end ?_))
 obtain ⟨⟨r0_4, r1_5⟩, hx_9, h⟩ := bsome h
 refine RW.one fokW (r_call trivial rfl (k27 r0_1_1 _ hx_9) rfl rfl (r_end ?_))
 refine RW.au fokW 5 [] ⟨[(1, .d (I r0_6)), (2, .d (I r1_6)), (3, .ptr 0 0), (4, .d (I r1_4)), (5, .d (I r0_4)), (6, .d (I r1_5))], [(0, .var 34 [.d (I r0_3.Top), .d (I r0_3.Bottom)])], 1, Fr.emp, [], 0⟩ (by kernel_rfl) ?_
 refine RW.nil ?_
 refine hQ_7 _ ?_
 refine AW.srwK (fun Q_10 hQ_10 => ?_)
 obtain ⟨r0_2, hx_11, h⟩ := bsome h
 refine RW.one fokW (r_call trivial rfl (k55 _ hx_11) rfl rfl (r_end ?_))
 obtain ⟨⟨r0_4_1, r1_5_1⟩, hx_12, h⟩ := bsome h
 refine RW.one fokW (r_call trivial rfl (k29 r0_2 20 _ hx_12) rfl rfl (r_end ?_))
 refine RW.au fokW 6 [] ⟨[(1, .d (I r0_6)), (2, .d (I r1_6)), (3, .ptr 0 0), (4, .d (I r1_4)), (5, .d (I r0_4)), (6, .d (I r1_5)), (7, .ptr 1 0), (8, .d (I r1_5_1))], [(1, .var 42 [.d (I r0_4_1.Low), .d (I r0_4_1.High)]), (0, .var 34 [.d (I r0_3.Top), .d (I r0_3.Bottom)])], 2, Fr.emp, [], 0⟩ (by kernel_rfl) ?_
 refine RW.nil ?_
 refine hQ_10 _ ?_
 refine AW.srwK (fun Q_13 hQ_13 => ?_)
 obtain ⟨r0_5, hx_14, h⟩ := bsome h
 refine RW.one fokW (r_call trivial rfl (k55 _ hx_14) rfl rfl (r_end ?_))
 obtain ⟨⟨r0_5_1, r1_5_2⟩, hx_15, h⟩ := bsome h
 refine RW.one fokW (r_call trivial rfl (k31 r0_5 10 _ hx_15) rfl rfl (r_end ?_))
 refine RW.au fokW 5 [] ⟨[(1, .d (I r0_6)), (2, .d (I r1_6)), (3, .ptr 0 0), (4, .d (I r1_4)), (5, .d (I r0_4)), (6, .d (I r1_5)), (7, .ptr 1 0), (8, .d (I r1_5_1)), (9, .d (I r0_5_1)), (10, .d (I r1_5_2))], [(1, .var 42 [.d (I r0_4_1.Low), .d (I r0_4_1.High)]), (0, .var 34 [.d (I r0_3.Top), .d (I r0_3.Bottom)])], 2, Fr.emp, [], 0⟩ (by kernel_rfl) ?_
 refine RW.nil ?_
 refine hQ_13 _ ?_
 obtain ⟨c_16, hx_16, hk_16⟩ := bsomeC h
 refine AW.jnK (fun (_ : Unit) => ⟨[], [], 0, Fr.emp, [], 0⟩) (c := c_16) (fun K_16 hK_16 => ?_) (fun j_16 hj_16 => ?_)
 ·have h := hx_16
  obtain ⟨v, hx_17, h⟩ := bsome h
  refine AW.jnSK (fun (v : Bool) => ⟨[(80, .d (.bool v))], [], 0, Fr.emp, [], 0⟩) (c := v) (fun K_17 hK_17 => ?_) ?_
  ·have h := hx_17
   refine AW.drw fokW ?_
   refine RunC.auX 3 ⟨[(1, .d (I r0_6)), (3, .ptr 0 0), (4, .d (I r1_4)), (5, .d (I r0_4)), (6, .d (I r1_5)), (7, .ptr 1 0), (8, .d (I r1_5_1)), (9, .d (I r0_5_1)), (10, .d (I r1_5_2)), (43, .d (.bool (decide (r1_6 ≠ 0))))], [(1, .var 42 [.d (I r0_4_1.Low), .d (I r0_4_1.High)]), (0, .var 34 [.d (I r0_3.Top), .d (I r0_3.Bottom)])], 2, Fr.emp, [], 0⟩ (by kernel_rfl) ?_
   refine r_split 43 rfl (fun hb_19 => ?_) (fun hb_19 => ?_)
   ·have h := ifT hb_19 h
    refine RunC.auX 37 ⟨[(80, .d (.bool true))], [(1, .var 42 [.d (I r0_4_1.Low), .d (I r0_4_1.High)]), (0, .var 34 [.d (I r0_3.Top), .d (I r0_3.Bottom)])], 2, Fr.emp, [], 0⟩ (by kernel_rfl) ?_
    refine RunC.fin ⟨[(80, .d (.bool true))], [], 2, Fr.emp, [], 0⟩ (by kernel_rfl) (by kernel_rfl) ?_
    obtain rfl := Option.some.inj h
    exact hK_17 _ (Can.kp (by kernel_rfl))
   ·have h := ifF hb_19 h
    refine RunC.auX 4 ⟨[(1, .d (I r0_6)), (3, .ptr 0 0), (5, .d (I r0_4)), (6, .d (I r1_5)), (7, .ptr 1 0), (8, .d (I r1_5_1)), (9, .d (I r0_5_1)), (10, .d (I r1_5_2)), (47, .d (.bool (decide (r1_4 ≠ 0))))], [(1, .var 42 [.d (I r0_4_1.Low), .d (I r0_4_1.High)]), (0, .var 34 [.d (I r0_3.Top), .d (I r0_3.Bottom)])], 2, Fr.emp, [], 0⟩ (by kernel_rfl) ?_
    refine r_split 47 rfl (fun hb_20 => ?_) (fun hb_20 => ?_)
    ·have h := ifT hb_20 h
     refine RunC.auX 33 ⟨[(80, .d (.bool true))], [(1, .var 42 [.d (I r0_4_1.Low), .d (I r0_4_1.High)]), (0, .var 34 [.d (I r0_3.Top), .d (I r0_3.Bottom)])], 2, Fr.emp, [], 0⟩ (by kernel_rfl) ?_
     refine RunC.fin ⟨[(80, .d (.bool true))], [], 2, Fr.emp, [], 0⟩ (by kernel_rfl) (by kernel_rfl) ?_
     obtain rfl := Option.some.inj h
     exact hK_17 _ (Can.kp (by kernel_rfl))
    ·have h := ifF hb_20 h
     refine RunC.auX 4 ⟨[(1, .d (I r0_6)), (3, .ptr 0 0), (5, .d (I r0_4)), (7, .ptr 1 0), (8, .d (I r1_5_1)), (9, .d (I r0_5_1)), (10, .d (I r1_5_2)), (51, .d (.bool (decide (r1_5 ≠ 0))))], [(1, .var 42 [.d (I r0_4_1.Low), .d (I r0_4_1.High)]), (0, .var 34 [.d (I r0_3.Top), .d (I r0_3.Bottom)])], 2, Fr.emp, [], 0⟩ (by kernel_rfl) ?_
     refine r_split 51 rfl (fun hb_21 => ?_) (fun hb_21 => ?_)
     ·have h := ifT hb_21 h
      refine RunC.auX 29 ⟨[(80, .d (.bool true))], [(1, .var 42 [.d (I r0_4_1.Low), .d (I r0_4_1.High)]), (0, .var 34 [.d (I r0_3.Top), .d (I r0_3.Bottom)])], 2, Fr.emp, [], 0⟩ (by kernel_rfl) ?_
      refine RunC.fin ⟨[(80, .d (.bool true))], [], 2, Fr.emp, [], 0⟩ (by kernel_rfl) (by kernel_rfl) ?_
      obtain rfl := Option.some.inj h
      exact hK_17 _ (Can.kp (by kernel_rfl))
     ·have h := ifF hb_21 h
      refine RunC.auX 4 ⟨[(1, .d (I r0_6)), (3, .ptr 0 0), (5, .d (I r0_4)), (7, .ptr 1 0), (9, .d (I r0_5_1)), (10, .d (I r1_5_2)), (55, .d (.bool (decide (r1_5_1 ≠ 0))))], [(1, .var 42 [.d (I r0_4_1.Low), .d (I r0_4_1.High)]), (0, .var 34 [.d (I r0_3.Top), .d (I r0_3.Bottom)])], 2, Fr.emp, [], 0⟩ (by kernel_rfl) ?_
      refine r_split 55 rfl (fun hb_22 => ?_) (fun hb_22 => ?_)
      ·have h := ifT hb_22 h
       refine RunC.auX 25 ⟨[(80, .d (.bool true))], [(1, .var 42 [.d (I r0_4_1.Low), .d (I r0_4_1.High)]), (0, .var 34 [.d (I r0_3.Top), .d (I r0_3.Bottom)])], 2, Fr.emp, [], 0⟩ (by kernel_rfl) ?_
       refine RunC.fin ⟨[(80, .d (.bool true))], [], 2, Fr.emp, [], 0⟩ (by kernel_rfl) (by kernel_rfl) ?_
       obtain rfl := Option.some.inj h
       exact hK_17 _ (Can.kp (by kernel_rfl))
      ·have h := ifF hb_22 h
       refine RunC.auX 4 ⟨[(1, .d (I r0_6)), (3, .ptr 0 0), (5, .d (I r0_4)), (7, .ptr 1 0), (9, .d (I r0_5_1)), (59, .d (.bool (decide (r1_5_2 ≠ 0))))], [(1, .var 42 [.d (I r0_4_1.Low), .d (I r0_4_1.High)]), (0, .var 34 [.d (I r0_3.Top), .d (I r0_3.Bottom)])], 2, Fr.emp, [], 0⟩ (by kernel_rfl) ?_
       refine r_split 59 rfl (fun hb_23 => ?_) (fun hb_23 => ?_)
       ·have h := ifT hb_23 h
        refine RunC.auX 21 ⟨[(80, .d (.bool true))], [(1, .var 42 [.d (I r0_4_1.Low), .d (I r0_4_1.High)]), (0, .var 34 [.d (I r0_3.Top), .d (I r0_3.Bottom)])], 2, Fr.emp, [], 0⟩ (by kernel_rfl) ?_
        refine RunC.fin ⟨[(80, .d (.bool true))], [], 2, Fr.emp, [], 0⟩ (by kernel_rfl) (by kernel_rfl) ?_
        obtain rfl := Option.some.inj h
        exact hK_17 _ (Can.kp (by kernel_rfl))
       ·have h := ifF hb_23 h
        refine RunC.auX 4 ⟨[(3, .ptr 0 0), (5, .d (I r0_4)), (7, .ptr 1 0), (9, .d (I r0_5_1)), (63, .d (.bool (decide (r0_6 ≠ 1))))], [(1, .var 42 [.d (I r0_4_1.Low), .d (I r0_4_1.High)]), (0, .var 34 [.d (I r0_3.Top), .d (I r0_3.Bottom)])], 2, Fr.emp, [], 0⟩ (by kernel_rfl) ?_
        refine r_split 63 rfl (fun hb_24 => ?_) (fun hb_24 => ?_)
        ·have h := ifT hb_24 h
         refine RunC.auX 17 ⟨[(80, .d (.bool true))], [(1, .var 42 [.d (I r0_4_1.Low), .d (I r0_4_1.High)]), (0, .var 34 [.d (I r0_3.Top), .d (I r0_3.Bottom)])], 2, Fr.emp, [], 0⟩ (by kernel_rfl) ?_
         refine RunC.fin ⟨[(80, .d (.bool true))], [], 2, Fr.emp, [], 0⟩ (by kernel_rfl) (by kernel_rfl) ?_
         obtain rfl := Option.some.inj h
         exact hK_17 _ (Can.kp (by kernel_rfl))
        ·have h := ifF hb_24 h
         refine RunC.auX 1 ⟨[(5, .d (I r0_4)), (7, .ptr 1 0), (9, .d (I r0_5_1)), (63, .d (.bool false)), (64, .agg [.d (I r0_3.Top), .d (I r0_3.Bottom)])], [(1, .var 42 [.d (I r0_4_1.Low), .d (I r0_4_1.High)]), (0, .var 34 [.d (I r0_3.Top), .d (I r0_3.Bottom)])], 2, Fr.emp, [], 0⟩ (by kernel_rfl) ?_
         obtain ⟨r0_7, hx_25, h⟩ := bsome h
         refine r_call rfl rfl (k60 38 17 _ hx_25) rfl rfl ?_
         refine r_aeq rfl rfl rfl rfl rfl ft34 rfl rfl rfl ?_
         refine RunC.auX 2 ⟨[(5, .d (I r0_4)), (7, .ptr 1 0), (9, .d (I r0_5_1)), (68, .d (.bool (true != ((r0_3.Top == r0_7.Top) && ((r0_3.Bottom == r0_7.Bottom) && true)))))], [(1, .var 42 [.d (I r0_4_1.Low), .d (I r0_4_1.High)]), (0, .var 34 [.d (I r0_3.Top), .d (I r0_3.Bottom)])], 2, Fr.emp, [], 0⟩ (by kernel_rfl) ?_
         refine r_split 68 rfl (fun hb_26 => ?_) (fun hb_26 => ?_)
         ·have h := ifT hb_26 h
          refine RunC.auX 12 ⟨[(80, .d (.bool true))], [(1, .var 42 [.d (I r0_4_1.Low), .d (I r0_4_1.High)]), (0, .var 34 [.d (I r0_3.Top), .d (I r0_3.Bottom)])], 2, Fr.emp, [], 0⟩ (by kernel_rfl) ?_
          refine RunC.fin ⟨[(80, .d (.bool true))], [], 2, Fr.emp, [], 0⟩ (by kernel_rfl) (by kernel_rfl) ?_
          obtain rfl := Option.some.inj h
          exact hK_17 _ (Can.kp (by kernel_rfl))
         ·have h := ifF hb_26 h
          refine RunC.auX 4 ⟨[(7, .ptr 1 0), (9, .d (I r0_5_1)), (72, .d (.bool (decide (r0_4 ≠ 22))))], [(1, .var 42 [.d (I r0_4_1.Low), .d (I r0_4_1.High)]), (0, .var 34 [.d (I r0_3.Top), .d (I r0_3.Bottom)])], 2, Fr.emp, [], 0⟩ (by kernel_rfl) ?_
          refine r_split 72 rfl (fun hb_27 => ?_) (fun hb_27 => ?_)
          ·have h := ifT hb_27 h
           refine RunC.auX 8 ⟨[(80, .d (.bool true))], [(1, .var 42 [.d (I r0_4_1.Low), .d (I r0_4_1.High)]), (0, .var 34 [.d (I r0_3.Top), .d (I r0_3.Bottom)])], 2, Fr.emp, [], 0⟩ (by kernel_rfl) ?_
           refine RunC.fin ⟨[(80, .d (.bool true))], [], 2, Fr.emp, [], 0⟩ (by kernel_rfl) (by kernel_rfl) ?_
           obtain rfl := Option.some.inj h
           exact hK_17 _ (Can.kp (by kernel_rfl))
          ·have h := ifF hb_27 h
           refine RunC.auX 1 ⟨[(9, .d (I r0_5_1)), (72, .d (.bool false)), (73, .agg [.d (I r0_4_1.Low), .d (I r0_4_1.High)])], [(1, .var 42 [.d (I r0_4_1.Low), .d (I r0_4_1.High)]), (0, .var 34 [.d (I r0_3.Top), .d (I r0_3.Bottom)])], 2, Fr.emp, [], 0⟩ (by kernel_rfl) ?_
           obtain ⟨r0_8, hx_28, h⟩ := bsome h
           refine r_call rfl rfl (k46 (-7) 8 _ hx_28) rfl rfl ?_
           refine r_aeq rfl rfl rfl rfl rfl ft42 rfl rfl rfl ?_
           refine RunC.auX 2 ⟨[(9, .d (I r0_5_1)), (77, .d (.bool (true != ((r0_4_1.Low == r0_8.Low) && ((r0_4_1.High == r0_8.High) && true)))))], [(1, .var 42 [.d (I r0_4_1.Low), .d (I r0_4_1.High)]), (0, .var 34 [.d (I r0_3.Top), .d (I r0_3.Bottom)])], 2, Fr.emp, [], 0⟩ (by kernel_rfl) ?_
           refine r_split 77 rfl (fun hb_29 => ?_) (fun hb_29 => ?_)
           ·have h := ifT hb_29 h
            refine RunC.auX 3 ⟨[(80, .d (.bool true))], [(1, .var 42 [.d (I r0_4_1.Low), .d (I r0_4_1.High)]), (0, .var 34 [.d (I r0_3.Top), .d (I r0_3.Bottom)])], 2, Fr.emp, [], 0⟩ (by kernel_rfl) ?_
            refine RunC.fin ⟨[(80, .d (.bool true))], [], 2, Fr.emp, [], 0⟩ (by kernel_rfl) (by kernel_rfl) ?_
            obtain rfl := Option.some.inj h
            exact hK_17 _ (Can.kp (by kernel_rfl))
           ·have h := ifF hb_29 h
            refine RunC.auX 3 ⟨[(80, .d (.bool (decide (r0_5_1 ≠ 6))))], [(1, .var 42 [.d (I r0_4_1.Low), .d (I r0_4_1.High)]), (0, .var 34 [.d (I r0_3.Top), .d (I r0_3.Bottom)])], 2, Fr.emp, [], 0⟩ (by kernel_rfl) ?_
            refine RunC.fin ⟨[(80, .d (.bool (decide (r0_5_1 ≠ 6))))], [], 2, Fr.emp, [], 0⟩ (by kernel_rfl) (by kernel_rfl) ?_
            obtain rfl := Option.some.inj h
            exact hK_17 _ (Can.kp (by kernel_rfl))
  ·refine AW.cond rfl (fun hb_30 => ?_) (fun hb_30 => ?_)
   ·have h := ifT hb_30 h
    refine AW.sa fokW [] ⟨[(0, .d (.bool false))], [], 0, Fr.emp, [], 0⟩ (by kernel_rfl) ?_
    obtain rfl := Option.some.inj h
    obtain rfl := Aft.bk hk_16
    exact AW.ret (hR_0 _ (retX (.cons (.tmp rfl) .nil) (.refl _) rfl (by kernel_rfl) (by kernel_rfl)))
   ·have h := ifF hb_30 h
    refine AW.skip ?_
    obtain rfl := Option.some.inj h
    exact hK_16 _ _ rfl (Can.kp (by kernel_rfl))
 ·subst hj_16
  have h := Aft.nx hk_16
  refine AW.srwK (fun Q_31 hQ_31 => ?_)
  obtain ⟨r0_9, hx_32, h⟩ := bsome h
  refine RW.one fokW (r_call trivial rfl (k55 _ hx_32) rfl rfl (r_end ?_))
  obtain ⟨⟨r0_4_2, r1_5_3⟩, hx_33, h⟩ := bsome h
  refine RW.one fokW (r_call trivial rfl (k33 r0_9 _ hx_33) rfl rfl (r_end ?_))
  refine RW.au fokW 5 [] ⟨[(2, .d (I r1_5_3)), (11, .d (I r0_4_2))], [], 0, Fr.emp, [], 0⟩ (by kernel_rfl) ?_
  refine RW.nil ?_
  refine hQ_31 _ ?_
  refine AW.srwK (fun Q_34 hQ_34 => ?_)
  obtain ⟨r0_3_1, hx_35, h⟩ := bsome h
  refine RW.one fokW (r_call trivial rfl (k58 _ hx_35) rfl rfl (r_end ?_))
  obtain ⟨⟨r0_2_1, r1_2⟩, hx_36, h⟩ := bsome h
  refine RW.one fokW (r_call trivial rfl (k35 r0_3_1 _ hx_36) rfl rfl (r_end ?_))
  refine RW.au fokW 5 [] ⟨[(2, .d (I r1_5_3)), (4, .d (I r1_2)), (11, .d (I r0_4_2)), (12, .d (.sl 1 (List.map e3 r0_2_1)))], [], 0, Fr.emp, [], 0⟩ (by kernel_rfl) ?_
  refine RW.nil ?_
  refine hQ_34 _ ?_
  refine AW.srwK (fun Q_37 hQ_37 => ?_)
  obtain ⟨r0_10, hx_38, h⟩ := bsome h
  refine RW.one fokW (r_call trivial rfl (k55 _ hx_38) rfl rfl (r_end ?_))
  obtain ⟨⟨r0_4_3, r1_4_1⟩, hx_39, h⟩ := bsome h
  refine RW.one fokW (r_call trivial rfl (k25 r0_10 19 _ hx_39) rfl rfl (r_end ?_))
  refine RW.au fokW 5 [] ⟨[(2, .d (I r1_5_3)), (4, .d (I r1_2)), (6, .d (I r1_4_1)), (11, .d (I r0_4_2)), (12, .d (.sl 1 (List.map e3 r0_2_1))), (13, .d (.bool r0_4_3))], [], 0, Fr.emp, [], 0⟩ (by kernel_rfl) ?_
  refine RW.nil ?_
  refine hQ_37 _ ?_
  refine AW.srwK (fun Q_40 hQ_40 => ?_)
  obtain ⟨r0_11, hx_41, h⟩ := bsome h
  refine RW.one fokW (r_call trivial rfl (k55 _ hx_41) rfl rfl (r_end ?_))
  obtain ⟨⟨r0_1_2, r1_1⟩, hx_42, h⟩ := bsome h
  refine RW.one fokW (r_call trivial rfl (k16 r0_11 _ hx_42) rfl rfl (r_end ?_))
  refine RW.au fokW 5 [] ⟨[(2, .d (I r1_5_3)), (4, .d (I r1_2)), (6, .d (I r1_4_1)), (8, .d (I r1_1)), (11, .d (I r0_4_2)), (12, .d (.sl 1 (List.map e3 r0_2_1))), (13, .d (.bool r0_4_3)), (14, .d (.bool r0_1_2))], [], 0, Fr.emp, [], 0⟩ (by kernel_rfl) ?_
  refine RW.nil ?_
  refine hQ_40 _ ?_
  refine AW.srwK (fun Q_43 hQ_43 => ?_)
  obtain ⟨r0_1_3, hx_44, h⟩ := bsome h
  refine RW.one fokW (r_call trivial rfl (k56 _ hx_44) rfl rfl (r_end ?_))
  obtain ⟨⟨r0_3_2, r1_4_2⟩, hx_45, h⟩ := bsome h
  refine RW.one fokW (r_call trivial rfl (k22 r0_1_3 30 (-8) _ hx_45) rfl rfl (r_end ?_))
  refine RW.au fokW 6 [] ⟨[(2, .d (I r1_5_3)), (4, .d (I r1_2)), (6, .d (I r1_4_1)), (8, .d (I r1_1)), (10, .d (I r1_4_2)), (11, .d (I r0_4_2)), (12, .d (.sl 1 (List.map e3 r0_2_1))), (13, .d (.bool r0_4_3)), (14, .d (.bool r0_1_2)), (15, .ptr 0 0)], [(0, .var 34 [.d (I r0_3_2.Top), .d (I r0_3_2.Bottom)])], 1, Fr.emp, [], 0⟩ (by kernel_rfl) ?_
  refine RW.nil ?_
  refine hQ_43 _ ?_
  obtain ⟨t, hx_46, h⟩ := bsome h
  refine AW.jnSK (fun (t : Bool) => ⟨[(0, .d (.bool t))], [], 0, Fr.emp, [], 0⟩) (c := t) (fun K_46 hK_46 => ?_) ?_
  ·have h := hx_46
   refine AW.drw fokW ?_
   refine RunC.auX 3 ⟨[(4, .d (I r1_2)), (6, .d (I r1_4_1)), (8, .d (I r1_1)), (10, .d (I r1_4_2)), (11, .d (I r0_4_2)), (12, .d (.sl 1 (List.map e3 r0_2_1))), (13, .d (.bool r0_4_3)), (14, .d (.bool r0_1_2)), (15, .ptr 0 0), (108, .d (.bool (decide (r1_5_3 = 0))))], [(0, .var 34 [.d (I r0_3_2.Top), .d (I r0_3_2.Bottom)])], 1, Fr.emp, [], 0⟩ (by kernel_rfl) ?_
   refine r_split 108 rfl (fun hb_48 => ?_) (fun hb_48 => ?_)
   ·have h := ifT hb_48 h
    refine RunC.auX 4 ⟨[(6, .d (I r1_4_1)), (8, .d (I r1_1)), (10, .d (I r1_4_2)), (11, .d (I r0_4_2)), (12, .d (.sl 1 (List.map e3 r0_2_1))), (13, .d (.bool r0_4_3)), (14, .d (.bool r0_1_2)), (15, .ptr 0 0), (112, .d (.bool (decide (r1_2 = 0))))], [(0, .var 34 [.d (I r0_3_2.Top), .d (I r0_3_2.Bottom)])], 1, Fr.emp, [], 0⟩ (by kernel_rfl) ?_
    refine r_split 112 rfl (fun hb_49 => ?_) (fun hb_49 => ?_)
    ·have h := ifT hb_49 h
     refine RunC.auX 4 ⟨[(8, .d (I r1_1)), (10, .d (I r1_4_2)), (11, .d (I r0_4_2)), (12, .d (.sl 1 (List.map e3 r0_2_1))), (13, .d (.bool r0_4_3)), (14, .d (.bool r0_1_2)), (15, .ptr 0 0), (116, .d (.bool (decide (r1_4_1 = 0))))], [(0, .var 34 [.d (I r0_3_2.Top), .d (I r0_3_2.Bottom)])], 1, Fr.emp, [], 0⟩ (by kernel_rfl) ?_
     refine r_split 116 rfl (fun hb_50 => ?_) (fun hb_50 => ?_)
     ·have h := ifT hb_50 h
      refine RunC.auX 4 ⟨[(10, .d (I r1_4_2)), (11, .d (I r0_4_2)), (12, .d (.sl 1 (List.map e3 r0_2_1))), (13, .d (.bool r0_4_3)), (14, .d (.bool r0_1_2)), (15, .ptr 0 0), (120, .d (.bool (decide (r1_1 = 0))))], [(0, .var 34 [.d (I r0_3_2.Top), .d (I r0_3_2.Bottom)])], 1, Fr.emp, [], 0⟩ (by kernel_rfl) ?_
      refine r_split 120 rfl (fun hb_51 => ?_) (fun hb_51 => ?_)
      ·have h := ifT hb_51 h
       refine RunC.auX 4 ⟨[(11, .d (I r0_4_2)), (12, .d (.sl 1 (List.map e3 r0_2_1))), (13, .d (.bool r0_4_3)), (14, .d (.bool r0_1_2)), (15, .ptr 0 0), (124, .d (.bool (decide (r1_4_2 = 0))))], [(0, .var 34 [.d (I r0_3_2.Top), .d (I r0_3_2.Bottom)])], 1, Fr.emp, [], 0⟩ (by kernel_rfl) ?_
       refine r_split 124 rfl (fun hb_52 => ?_) (fun hb_52 => ?_)
       ·have h := ifT hb_52 h
        refine RunC.auX 4 ⟨[(12, .d (.sl 1 (List.map e3 r0_2_1))), (13, .d (.bool r0_4_3)), (14, .d (.bool r0_1_2)), (15, .ptr 0 0), (128, .d (.bool (decide (r0_4_2 = 2))))], [(0, .var 34 [.d (I r0_3_2.Top), .d (I r0_3_2.Bottom)])], 1, Fr.emp, [], 0⟩ (by kernel_rfl) ?_
        refine r_split 128 rfl (fun hb_53 => ?_) (fun hb_53 => ?_)
        ·have h := ifT hb_53 h
         refine RunC.auX 2 ⟨[(13, .d (.bool r0_4_3)), (14, .d (.bool r0_1_2)), (15, .ptr 0 0), (128, .d (.bool true)), (129, .d (.sl 1 (List.map e3 r0_2_1))), (130, .own 1 (List.map e3 [0]).length)], [(1, .row 3 1 (List.map e3 [0])), (0, .var 34 [.d (I r0_3_2.Top), .d (I r0_3_2.Bottom)])], 2, Fr.emp, [], 0⟩ (by kernel_rfl) ?_
         obtain ⟨r0_12, hx_54, h⟩ := bsome h
         refine r_callF (rs := [(1, .row 3 1 (List.map e3 [0]))]) rfl rfl (k37 r0_2_1 [0] _ hx_54) ⟨rfl, trivial⟩ ⟨.refl _, (.own rfl rfl), trivial⟩ rfl rfl rfl ?_
         refine RunC.auX 2 ⟨[(13, .d (.bool r0_4_3)), (14, .d (.bool r0_1_2)), (15, .ptr 0 0), (133, .d (.bool r0_12))], [(1, .row 3 1 (List.map e3 [0])), (0, .var 34 [.d (I r0_3_2.Top), .d (I r0_3_2.Bottom)])], 2, Fr.emp, [], 0⟩ (by kernel_rfl) ?_
         refine r_split 133 rfl (fun hb_55 => ?_) (fun hb_55 => ?_)
         ·have h := ifT hb_55 h
          refine RunC.auX 3 ⟨[(14, .d (.bool r0_1_2)), (15, .ptr 0 0), (136, .d (.bool r0_4_3))], [(1, .row 3 1 (List.map e3 [0])), (0, .var 34 [.d (I r0_3_2.Top), .d (I r0_3_2.Bottom)])], 2, Fr.emp, [], 0⟩ (by kernel_rfl) ?_
          refine r_split 136 rfl (fun hb_56 => ?_) (fun hb_56 => ?_)
          ·have h := ifT hb_56 h
           refine RunC.auX 3 ⟨[(15, .ptr 0 0), (139, .d (.bool r0_1_2))], [(1, .row 3 1 (List.map e3 [0])), (0, .var 34 [.d (I r0_3_2.Top), .d (I r0_3_2.Bottom)])], 2, Fr.emp, [], 0⟩ (by kernel_rfl) ?_
           refine r_split 139 rfl (fun hb_57 => ?_) (fun hb_57 => ?_)
           ·have h := ifT hb_57 h
            refine RunC.auX 1 ⟨[(139, .d (.bool true)), (140, .agg [.d (I r0_3_2.Top), .d (I r0_3_2.Bottom)])], [(1, .row 3 1 (List.map e3 [0])), (0, .var 34 [.d (I r0_3_2.Top), .d (I r0_3_2.Bottom)])], 2, Fr.emp, [], 0⟩ (by kernel_rfl) ?_
            obtain ⟨r0_13, hx_58, h⟩ := bsome h
            refine r_call rfl rfl (k60 (-200) 9 _ hx_58) rfl rfl ?_
            refine r_aeq rfl rfl rfl rfl rfl ft34 rfl rfl rfl ?_
            refine RunC.auX 2 ⟨[(0, .d (.bool (false != ((r0_3_2.Top == r0_13.Top) && ((r0_3_2.Bottom == r0_13.Bottom) && true)))))], [(1, .row 3 1 (List.map e3 [0])), (0, .var 34 [.d (I r0_3_2.Top), .d (I r0_3_2.Bottom)])], 2, Fr.emp, [], 0⟩ (by kernel_rfl) ?_
            refine RunC.fin ⟨[(0, .d (.bool (false != ((r0_3_2.Top == r0_13.Top) && ((r0_3_2.Bottom == r0_13.Bottom) && true)))))], [], 2, Fr.emp, [], 0⟩ (by kernel_rfl) (by kernel_rfl) ?_
            obtain rfl := Option.some.inj h
            exact hK_46 _ (Can.kp (by kernel_rfl))
           ·have h := ifF hb_57 h
            refine RunC.auX 5 ⟨[(0, .d (.bool false))], [(1, .row 3 1 (List.map e3 [0])), (0, .var 34 [.d (I r0_3_2.Top), .d (I r0_3_2.Bottom)])], 2, Fr.emp, [], 0⟩ (by kernel_rfl) ?_
            refine RunC.fin ⟨[(0, .d (.bool false))], [], 2, Fr.emp, [], 0⟩ (by kernel_rfl) (by kernel_rfl) ?_
            obtain rfl := Option.some.inj h
            exact hK_46 _ (Can.kp (by kernel_rfl))
          ·have h := ifF hb_56 h
           refine RunC.auX 8 ⟨[(0, .d (.bool false))], [(1, .row 3 1 (List.map e3 [0])), (0, .var 34 [.d (I r0_3_2.Top), .d (I r0_3_2.Bottom)])], 2, Fr.emp, [], 0⟩ (by kernel_rfl) ?_
           refine RunC.fin ⟨[(0, .d (.bool false))], [], 2, Fr.emp, [], 0⟩ (by kernel_rfl) (by kernel_rfl) ?_
           obtain rfl := Option.some.inj h
           exact hK_46 _ (Can.kp (by kernel_rfl))
         ·have h := ifF hb_55 h
          refine RunC.auX 11 ⟨[(0, .d (.bool false))], [(1, .row 3 1 (List.map e3 [0])), (0, .var 34 [.d (I r0_3_2.Top), .d (I r0_3_2.Bottom)])], 2, Fr.emp, [], 0⟩ (by kernel_rfl) ?_
          refine RunC.fin ⟨[(0, .d (.bool false))], [], 2, Fr.emp, [], 0⟩ (by kernel_rfl) (by kernel_rfl) ?_
          obtain rfl := Option.some.inj h
          exact hK_46 _ (Can.kp (by kernel_rfl))
        ·have h := ifF hb_53 h
         refine RunC.auX 16 ⟨[(0, .d (.bool false))], [(0, .var 34 [.d (I r0_3_2.Top), .d (I r0_3_2.Bottom)])], 1, Fr.emp, [], 0⟩ (by kernel_rfl) ?_
         refine RunC.fin ⟨[(0, .d (.bool false))], [], 1, Fr.emp, [], 0⟩ (by kernel_rfl) (by kernel_rfl) ?_
         obtain rfl := Option.some.inj h
         exact hK_46 _ (Can.kp (by kernel_rfl))
       ·have h := ifF hb_52 h
        refine RunC.auX 20 ⟨[(0, .d (.bool false))], [(0, .var 34 [.d (I r0_3_2.Top), .d (I r0_3_2.Bottom)])], 1, Fr.emp, [], 0⟩ (by kernel_rfl) ?_
        refine RunC.fin ⟨[(0, .d (.bool false))], [], 1, Fr.emp, [], 0⟩ (by kernel_rfl) (by kernel_rfl) ?_
        obtain rfl := Option.some.inj h
        exact hK_46 _ (Can.kp (by kernel_rfl))
      ·have h := ifF hb_51 h
       refine RunC.auX 24 ⟨[(0, .d (.bool false))], [(0, .var 34 [.d (I r0_3_2.Top), .d (I r0_3_2.Bottom)])], 1, Fr.emp, [], 0⟩ (by kernel_rfl) ?_
       refine RunC.fin ⟨[(0, .d (.bool false))], [], 1, Fr.emp, [], 0⟩ (by kernel_rfl) (by kernel_rfl) ?_
       obtain rfl := Option.some.inj h
       exact hK_46 _ (Can.kp (by kernel_rfl))
     ·have h := ifF hb_50 h
      refine RunC.auX 28 ⟨[(0, .d (.bool false))], [(0, .var 34 [.d (I r0_3_2.Top), .d (I r0_3_2.Bottom)])], 1, Fr.emp, [], 0⟩ (by kernel_rfl) ?_
      refine RunC.fin ⟨[(0, .d (.bool false))], [], 1, Fr.emp, [], 0⟩ (by kernel_rfl) (by kernel_rfl) ?_
      obtain rfl := Option.some.inj h
      exact hK_46 _ (Can.kp (by kernel_rfl))
    ·have h := ifF hb_49 h
     refine RunC.auX 32 ⟨[(0, .d (.bool false))], [(0, .var 34 [.d (I r0_3_2.Top), .d (I r0_3_2.Bottom)])], 1, Fr.emp, [], 0⟩ (by kernel_rfl) ?_
     refine RunC.fin ⟨[(0, .d (.bool false))], [], 1, Fr.emp, [], 0⟩ (by kernel_rfl) (by kernel_rfl) ?_
     obtain rfl := Option.some.inj h
     exact hK_46 _ (Can.kp (by kernel_rfl))
   ·have h := ifF hb_48 h
    refine RunC.auX 36 ⟨[(0, .d (.bool false))], [(0, .var 34 [.d (I r0_3_2.Top), .d (I r0_3_2.Bottom)])], 1, Fr.emp, [], 0⟩ (by kernel_rfl) ?_
    refine RunC.fin ⟨[(0, .d (.bool false))], [], 1, Fr.emp, [], 0⟩ (by kernel_rfl) (by kernel_rfl) ?_
    obtain rfl := Option.some.inj h
    exact hK_46 _ (Can.kp (by kernel_rfl))
  ·obtain rfl := Option.some.inj h
   exact AW.ret (hR_0 _ (retX (.cons (.tmp rfl) .nil) (.refl _) rfl (by kernel_rfl) (by kernel_rfl)))
def g77_7 (b : StandBook) (weight : Int) (p : (List Int)) : Int → Unit → Option (Ctl (Unit) (Ctl (Unit) (Bool))) := fun lean _ => (g72 b p weight lean).bind fun r0 => bif r0 then (some (.brk (.brk false))) else (some (.next ()))
def g77_2 (b : StandBook) (weight : Int) : Int → (List Int) → Unit → Option (Ctl (Unit) (Bool)) := fun i p _ => (must (decide ((b.Lean_ + 1) ≤ 9223372036854775807))).bind fun _ => bindC (forC (g77_7 b weight p) ((((b.Lean_ + 1) : Int) - (wr (-b.Lean_))).toNat) (wr (-b.Lean_)) ()) fun _ => some (.next ())
def g77 (b : StandBook) (l : (List (List Int))) (weight : Int) : Option Bool := bindC (eachC (g77_2 b weight) l 0 ()) fun _ => some true
theorem k77 (b : StandBook) (l : (List (List Int))) (weight : Int) (r : Bool) (h : g77 b l weight = some r) : SCall Tryd.prog Gs 77 [.agg (cv25 b), .d (.sl 1 (List.map e47 l)), .d (I weight)] [] 0 Fr.emp (.d (.bool r)) [] 0 Fr.emp := by
 unfold g77 at h
 refine SCall.mkK Tryd.func77 c77 rfl rfl (by kernel_rfl) (fun Q_0 hR_0 hN_0 => ?_)
 refine AW.sa fokW [] ⟨[(1, .d (.sl 1 (List.map e47 l))), (2, .d (I weight)), (3, .ptr 0 0)], [(0, .var 25 (cv25 b))], 1, Fr.emp, [], 0⟩ (by kernel_rfl) ?_
 refine AW.seqK (fun K_1 hK_1 => ?_)
 refine AW.sa fokW [] ⟨[(1, .d (.sl 1 (List.map e47 l))), (2, .d (I weight)), (3, .ptr 0 0), (7, .d (I 0))], [(0, .var 25 (cv25 b))], 1, Fr.emp, [], 0⟩ (by kernel_rfl) ?_
 refine AW.block ?_
 refine AW.sln (t := 1) rfl (fun hN_2 => ?_)
 rw [List.length_map] at hN_2
 obtain ⟨out_2, hx_2, hk_2⟩ := bsomeC h
 refine AW.evCK (fun (i : Int) (_ : Unit) => ⟨[(1, .d (.sl 1 (List.map e47 l))), (2, .d (I weight)), (3, .ptr 0 0), (7, .d (I i))], [(0, .var 25 (cv25 b))], 1, Fr.emp, [], 0⟩) (g77_2 b weight) hx_2 (Can.kp (by kernel_rfl)) (fun i p s_2 hi_2 hl_2 hp_2 c_2 h hb_2 K_2 hK_2 => ?_) (fun i s_2 hi_2 hl_2 hout => ?_)
 ·unfold g77_2 at h
  refine AW.seqK (fun K_3 hK_3 => ?_)
  refine AW.srwK (fun Q_4 hQ_4 => ?_)
  refine RW.au fokW 2 [] ⟨[(1, .d (.sl 1 (List.map e47 l))), (2, .d (I weight)), (3, .ptr 0 0), (7, .d (I i)), (9, .d (I i)), (10, .d (.sl 1 (List.map e47 l)))], [(0, .var 25 (cv25 b))], 1, Fr.emp, [], 0⟩ (by kernel_rfl) ?_
  refine RW.one fokW (r_lenX trivial rfl lenm (r_end ?_))
  refine RW.au fokW 1 [] ⟨[(1, .d (.sl 1 (List.map e47 l))), (2, .d (I weight)), (3, .ptr 0 0), (7, .d (I i)), (12, .d (.bool (decide (i < (l.length : Int)))))], [(0, .var 25 (cv25 b))], 1, Fr.emp, [], 0⟩ (by kernel_rfl) ?_
  refine RW.nil ?_
  refine hQ_4 _ ?_
  refine AW.cond rfl (fun hb_5 => ?_) (fun hb_5 => False.elim (by have := of_decide_eq_false hb_5; omega))
  refine AW.skip ?_
  refine hK_3 _ ?_
  refine AW.seqK (fun K_6 hK_6 => ?_)
  refine AW.block ?_
  refine AW.sa fokW [] ⟨[(1, .d (.sl 1 (List.map e47 l))), (2, .d (I weight)), (3, .ptr 0 0), (7, .d (I i)), (8, .d (I (wr (-b.Lean_))))], [(0, .var 25 (cv25 b))], 1, Fr.emp, [], 0⟩ (by kernel_rfl) ?_
  refine AW.block ?_
  obtain ⟨_, hN_7, h⟩ := bsome h
  have hN_7 := of_decide_eq_true (must_ok hN_7)
  have h0_7 : -9223372036854775808 ≤ (wr (-b.Lean_)) := (wr_range _).1
  obtain ⟨out_7, hx_7, hk_7⟩ := bsomeC h
  refine AW.lpCK (fun (lean : Int) (_ : Unit) => ⟨[(1, .d (.sl 1 (List.map e47 l))), (2, .d (I weight)), (3, .ptr 0 0), (7, .d (I i)), (8, .d (I lean))], [(0, .var 25 (cv25 b))], 1, Fr.emp, [], 0⟩) (g77_7 b weight p) ((b.Lean_ + 1)) hx_7 (Can.kp (by kernel_rfl)) (fun lean s_7 hi_7 hl_7 c_7 h hb_7 K_7 hK_7 => ?_) (fun lean s_7 hi_7 hl_7 hout => ?_)
  ·unfold g77_7 at h
   refine AW.seqK (fun K_8 hK_8 => ?_)
   refine AW.sa fokW [] ⟨[(1, .d (.sl 1 (List.map e47 l))), (2, .d (I weight)), (3, .ptr 0 0), (7, .d (I i)), (8, .d (I lean)), (21, .d (.bool (decide (lean ≤ b.Lean_))))], [(0, .var 25 (cv25 b))], 1, Fr.emp, [], 0⟩ (by kernel_rfl) ?_
   refine AW.cond rfl (fun hb_9 => ?_) (fun hb_9 => False.elim (by have := of_decide_eq_false hb_9; omega))
   refine AW.skip ?_
   refine hK_8 _ ?_
   refine AW.seqK (fun K_10 hK_10 => ?_)
   refine AW.block ?_
   refine AW.sdrwK fokW (fun Q_11 hQ_11 => ?_)
   refine RunC.auX 3 ⟨[(1, .d (.sl 1 (List.map e47 l))), (2, .d (I weight)), (3, .ptr 0 0), (7, .d (I i)), (8, .d (I lean)), (24, .agg (cv25 b)), (25, .d (.sl 1 (List.map e47 l))), (26, .d (I i))], [(0, .var 25 (cv25 b))], 1, Fr.emp, [], 0⟩ (by kernel_rfl) ?_
   refine r_iaD trivial rfl rfl hi_2 (row := e47 p) (mapget hp_2) ?_
   refine RunC.auX 3 ⟨[(1, .d (.sl 1 (List.map e47 l))), (2, .d (I weight)), (3, .ptr 0 0), (7, .d (I i)), (8, .d (I lean)), (24, .agg (cv25 b)), (28, .d (.sl 1 (List.map e3 p))), (29, .d (I weight)), (30, .d (I lean))], [(0, .var 25 (cv25 b))], 1, Fr.emp, [], 0⟩ (by kernel_rfl) ?_
   obtain ⟨r0, hx_12, h⟩ := bsome h
   refine r_call trivial rfl (k72 b p weight lean _ hx_12) rfl rfl ?_
   refine RunC.fin ⟨[(1, .d (.sl 1 (List.map e47 l))), (2, .d (I weight)), (3, .ptr 0 0), (7, .d (I i)), (8, .d (I lean)), (31, .d (.bool r0))], [(0, .var 25 (cv25 b))], 1, Fr.emp, [], 0⟩ (by kernel_rfl) (by kernel_rfl) ?_
   refine hQ_11 _ ?_
   refine AW.cond rfl (fun hb_13 => ?_) (fun hb_13 => ?_)
   ·have h := ifT hb_13 h
    refine AW.sa fokW [] ⟨[(6, .d (.bool false))], [], 1, Fr.emp, [], 0⟩ (by kernel_rfl) ?_
    obtain rfl := Option.some.inj h
    have e_2 := hb_7 _ rfl
    subst e_2
    obtain rfl := Aft.bk hk_7
    have e_1 := hb_2 _ rfl
    subst e_1
    obtain rfl := Aft.bk hk_2
    exact AW.ret (hR_0 _ (retX (.cons (.tmp rfl) .nil) (.refl _) rfl (by kernel_rfl) (by kernel_rfl)))
   ·have h := ifF hb_13 h
    refine AW.skip ?_
    refine hK_10 _ ?_
    refine AW.ra fokW [] ⟨[(1, .d (.sl 1 (List.map e47 l))), (2, .d (I weight)), (3, .ptr 0 0), (7, .d (I i)), (8, .d (I (wr (lean + 1))))], [(0, .var 25 (cv25 b))], 1, Fr.emp, [], 0⟩ (by kernel_rfl) ?_
    obtain rfl := Option.some.inj h
    have ew : wr (lean + 1) = lean + 1 := inext (N := (b.Lean_ + 1)) (by omega) (by omega) (by omega)
    rw [ew]
    exact hK_7 _ _ rfl (Can.kp (by kernel_rfl))
  ·subst hout
   have h := Aft.nx hk_7
   refine AW.seqK (fun K_14 hK_14 => ?_)
   refine AW.sa fokW [] ⟨[(1, .d (.sl 1 (List.map e47 l))), (2, .d (I weight)), (3, .ptr 0 0), (7, .d (I i)), (8, .d (I lean)), (21, .d (.bool (decide (lean ≤ b.Lean_))))], [(0, .var 25 (cv25 b))], 1, Fr.emp, [], 0⟩ (by kernel_rfl) ?_
   refine AW.cond rfl (fun hb_15 => False.elim (by have := of_decide_eq_true hb_15; omega)) (fun hb_15 => ?_)
   refine AW.exit ?_
   refine hK_6 _ ?_
   refine AW.ra fokW [] ⟨[(1, .d (.sl 1 (List.map e47 l))), (2, .d (I weight)), (3, .ptr 0 0), (7, .d (I (wr (i + 1))))], [(0, .var 25 (cv25 b))], 1, Fr.emp, [], 0⟩ (by kernel_rfl) ?_
   obtain rfl := Option.some.inj h
   have ew : wr (i + 1) = i + 1 := inext (N := (l.length : Int)) (by omega) (by omega) (by omega)
   rw [ew]
   exact hK_2 _ _ rfl (Can.kp (by kernel_rfl))
 ·subst hout
  have h := Aft.nx hk_2
  refine AW.seqK (fun K_16 hK_16 => ?_)
  refine AW.srwK (fun Q_17 hQ_17 => ?_)
  refine RW.au fokW 2 [] ⟨[(1, .d (.sl 1 (List.map e47 l))), (2, .d (I weight)), (3, .ptr 0 0), (7, .d (I i)), (9, .d (I i)), (10, .d (.sl 1 (List.map e47 l)))], [(0, .var 25 (cv25 b))], 1, Fr.emp, [], 0⟩ (by kernel_rfl) ?_
  refine RW.one fokW (r_lenX trivial rfl lenm (r_end ?_))
  refine RW.au fokW 1 [] ⟨[(1, .d (.sl 1 (List.map e47 l))), (2, .d (I weight)), (3, .ptr 0 0), (7, .d (I i)), (12, .d (.bool (decide (i < (l.length : Int)))))], [(0, .var 25 (cv25 b))], 1, Fr.emp, [], 0⟩ (by kernel_rfl) ?_
  refine RW.nil ?_
  refine hQ_17 _ ?_
  refine AW.cond rfl (fun hb_18 => False.elim (by have := of_decide_eq_true hb_18; omega)) (fun hb_18 => ?_)
  refine AW.exit ?_
  refine hK_1 _ ?_
  refine AW.sa fokW [] ⟨[(6, .d (.bool true))], [], 1, Fr.emp, [], 0⟩ (by kernel_rfl) ?_
  obtain rfl := Option.some.inj h
  exact AW.ret (hR_0 _ (retX (.cons (.tmp rfl) .nil) (.refl _) rfl (by kernel_rfl) (by kernel_rfl)))
def g78_2 (b : StandBook) (l : (List (List Int))) : Int → Unit → Option (Ctl (Unit) (Int)) := fun w _ => (g77 b l w).bind fun r0_2 => bif (!r0_2) then (some (.brk w)) else (some (.next ()))
def g78 (b : StandBook) (l : (List (List Int))) : Option Int := (must (decide ((b.Limit + 1) ≤ 9223372036854775807))).bind fun _ => bindC (forC (g78_2 b l) ((((b.Limit + 1) : Int) - 1).toNat) 1 ()) fun _ => some 0
theorem k78 (b : StandBook) (l : (List (List Int))) (r : Int) (h : g78 b l = some r) : SCall Tryd.prog Gs 78 [.agg (cv25 b), .d (.sl 1 (List.map e47 l))] [] 0 Fr.emp (.d (I r)) [] 0 Fr.emp := by
 unfold g78 at h
 refine SCall.mkK Tryd.func78 c78 rfl rfl (by kernel_rfl) (fun Q_0 hR_0 hN_0 => ?_)
 refine AW.sa fokW [] ⟨[(1, .d (.sl 1 (List.map e47 l))), (2, .ptr 0 0)], [(0, .var 25 (cv25 b))], 1, Fr.emp, [], 0⟩ (by kernel_rfl) ?_
 refine AW.seqK (fun K_1 hK_1 => ?_)
 refine AW.sa fokW [] ⟨[(1, .d (.sl 1 (List.map e47 l))), (2, .ptr 0 0), (5, .d (I 1))], [(0, .var 25 (cv25 b))], 1, Fr.emp, [], 0⟩ (by kernel_rfl) ?_
 refine AW.block ?_
 obtain ⟨_, hN_2, h⟩ := bsome h
 have hN_2 := of_decide_eq_true (must_ok hN_2)
 obtain ⟨out_2, hx_2, hk_2⟩ := bsomeC h
 refine AW.lpCK (fun (w : Int) (_ : Unit) => ⟨[(1, .d (.sl 1 (List.map e47 l))), (2, .ptr 0 0), (5, .d (I w))], [(0, .var 25 (cv25 b))], 1, Fr.emp, [], 0⟩) (g78_2 b l) ((b.Limit + 1)) hx_2 (Can.kp (by kernel_rfl)) (fun w s_2 hi_2 hl_2 c_2 h hb_2 K_2 hK_2 => ?_) (fun w s_2 hi_2 hl_2 hout => ?_)
 ·unfold g78_2 at h
  refine AW.seqK (fun K_3 hK_3 => ?_)
  refine AW.sa fokW [] ⟨[(1, .d (.sl 1 (List.map e47 l))), (2, .ptr 0 0), (5, .d (I w)), (9, .d (.bool (decide (w ≤ b.Limit))))], [(0, .var 25 (cv25 b))], 1, Fr.emp, [], 0⟩ (by kernel_rfl) ?_
  refine AW.cond rfl (fun hb_4 => ?_) (fun hb_4 => False.elim (by have := of_decide_eq_false hb_4; omega))
  refine AW.skip ?_
  refine hK_3 _ ?_
  refine AW.seqK (fun K_5 hK_5 => ?_)
  refine AW.block ?_
  refine AW.srwK (fun Q_6 hQ_6 => ?_)
  refine RW.au fokW 3 [] ⟨[(1, .d (.sl 1 (List.map e47 l))), (2, .ptr 0 0), (5, .d (I w)), (12, .agg (cv25 b)), (13, .d (.sl 1 (List.map e47 l))), (14, .d (I w))], [(0, .var 25 (cv25 b))], 1, Fr.emp, [], 0⟩ (by kernel_rfl) ?_
  obtain ⟨r0_2, hx_7, h⟩ := bsome h
  refine RW.one fokW (r_call trivial rfl (k77 b l w _ hx_7) rfl rfl (r_end ?_))
  refine RW.au fokW 1 [] ⟨[(1, .d (.sl 1 (List.map e47 l))), (2, .ptr 0 0), (5, .d (I w)), (16, .d (.bool (!r0_2)))], [(0, .var 25 (cv25 b))], 1, Fr.emp, [], 0⟩ (by kernel_rfl) ?_
  refine RW.nil ?_
  refine hQ_6 _ ?_
  refine AW.cond rfl (fun hb_8 => ?_) (fun hb_8 => ?_)
  ·have h := ifT hb_8 h
   refine AW.sa fokW [] ⟨[(4, .d (I w))], [], 1, Fr.emp, [], 0⟩ (by kernel_rfl) ?_
   obtain rfl := Option.some.inj h
   have e_1 := hb_2 _ rfl
   subst e_1
   obtain rfl := Aft.bk hk_2
   exact AW.ret (hR_0 _ (retX (.cons (.tmp rfl) .nil) (.refl _) rfl (by kernel_rfl) (by kernel_rfl)))
  ·have h := ifF hb_8 h
   refine AW.skip ?_
   refine hK_5 _ ?_
   refine AW.ra fokW [] ⟨[(1, .d (.sl 1 (List.map e47 l))), (2, .ptr 0 0), (5, .d (I (wr (w + 1))))], [(0, .var 25 (cv25 b))], 1, Fr.emp, [], 0⟩ (by kernel_rfl) ?_
   obtain rfl := Option.some.inj h
   have ew : wr (w + 1) = w + 1 := inext (N := (b.Limit + 1)) (by omega) (by omega) (by omega)
   rw [ew]
   exact hK_2 _ _ rfl (Can.kp (by kernel_rfl))
 ·subst hout
  have h := Aft.nx hk_2
  refine AW.seqK (fun K_9 hK_9 => ?_)
  refine AW.sa fokW [] ⟨[(1, .d (.sl 1 (List.map e47 l))), (2, .ptr 0 0), (5, .d (I w)), (9, .d (.bool (decide (w ≤ b.Limit))))], [(0, .var 25 (cv25 b))], 1, Fr.emp, [], 0⟩ (by kernel_rfl) ?_
  refine AW.cond rfl (fun hb_10 => False.elim (by have := of_decide_eq_true hb_10; omega)) (fun hb_10 => ?_)
  refine AW.exit ?_
  refine hK_1 _ ?_
  refine AW.sa fokW [] ⟨[(4, .d (I 0))], [], 1, Fr.emp, [], 0⟩ (by kernel_rfl) ?_
  obtain rfl := Option.some.inj h
  exact AW.ret (hR_0 _ (retX (.cons (.tmp rfl) .nil) (.refl _) rfl (by kernel_rfl) (by kernel_rfl)))
def g32_15 (lead : Int) : Int → (List Int) → (List (List Int)) → Option (List (List Int)) := fun i p l2 => (g82 p lead).bind fun r0_1 => (appL 24 l2 [r0_1]).bind fun l3 => some l3
def g32_10 (b : StandBook) (r0_4 : (List (List Int))) (l1 : List StandPart) : Int → Unit → Option (Ctl (Unit) (Int × Int)) := fun lead _ => (eachS (g32_15 lead) r0_4 0 ([] : List (List Int))).bind fun l2 => (g78 (StandBook.mk b.Kind b.Front b.Back b.Radius l1 b.Along b.High b.Lean_ b.Limit b.Trials) l2).bind fun r0_1_1 => bif (decide (r0_1_1 = 0)) then (some (.brk (lead, 0))) else (some (.next ()))
def g32 (b : StandBook) (along : Int) : Option (Int × Int) := (g43 along (-60) 60).bind fun r0 => (g71 b r0).bind fun (r0_4, r1_3) => bif (decide (r1_3 ≠ 0)) then (some (0, r1_3)) else ((appL 32 ([] : List StandPart) b.Parts).bind fun l => (appL 32 l [(StandPart.mk (Span.mk 0 0) along 0)]).bind fun l1 => bindC (forC (g32_10 b r0_4 l1) (((100 : Int) - 0).toNat) 0 ()) fun _ => some (0, 4))
theorem k32 (b : StandBook) (along : Int) (r : Int × Int) (h : g32 b along = some r) : SCall Tryd.prog Gs 32 [.agg (cv25 b), .d (I along)] [] 0 Fr.emp (match r with | (r0_5, r1_2) => .tup [.d (I r0_5), .d (I r1_2)]) [] 0 Fr.emp := by
 unfold g32 at h
 refine SCall.mkK Tryd.func32 c32 rfl rfl (by kernel_rfl) (fun Q_0 hR_0 hN_0 => ?_)
 refine AW.sa fokW [] ⟨[(1, .d (I along)), (2, .ptr 0 0)], [(0, .var 25 (cv25 b))], 1, Fr.emp, [], 0⟩ (by kernel_rfl) ?_
 refine AW.sdrwK fokW (fun Q_1 hQ_1 => ?_)
 refine RunC.auX 2 ⟨[(1, .d (I along)), (2, .ptr 0 0), (13, .agg (cv25 b)), (14, .d (I along))], [(0, .var 25 (cv25 b))], 1, Fr.emp, [], 0⟩ (by kernel_rfl) ?_
 obtain ⟨r0, hx_2, h⟩ := bsome h
 refine r_call trivial rfl (k43 along (-60) 60 _ hx_2) rfl rfl ?_
 obtain ⟨⟨r0_4, r1_3⟩, hx_3, h⟩ := bsome h
 refine r_call trivial rfl (k71 b r0 _ hx_3) rfl rfl ?_
 refine RunC.auX 5 ⟨[(1, .d (I along)), (2, .ptr 0 0), (6, .d (.sl 1 (List.map e47 r0_4))), (7, .d (I r1_3))], [(0, .var 25 (cv25 b))], 1, Fr.emp, [], 0⟩ (by kernel_rfl) ?_
 refine RunC.fin ⟨[(1, .d (I along)), (2, .ptr 0 0), (6, .d (.sl 1 (List.map e47 r0_4))), (7, .d (I r1_3))], [(0, .var 25 (cv25 b))], 1, Fr.emp, [], 0⟩ (by kernel_rfl) (by kernel_rfl) ?_
 refine hQ_1 _ ?_
 refine AW.seqK (fun K_4 hK_4 => ?_)
 refine AW.sa fokW [] ⟨[(1, .d (I along)), (2, .ptr 0 0), (6, .d (.sl 1 (List.map e47 r0_4))), (7, .d (I r1_3)), (20, .d (.bool (decide (r1_3 ≠ 0))))], [(0, .var 25 (cv25 b))], 1, Fr.emp, [], 0⟩ (by kernel_rfl) ?_
 refine AW.cond rfl (fun hb_5 => ?_) (fun hb_5 => ?_)
 ·have h := ifT hb_5 h
  refine AW.sa fokW [] ⟨[(4, .d (I 0)), (5, .d (I r1_3))], [], 1, Fr.emp, [], 0⟩ (by kernel_rfl) ?_
  obtain rfl := Option.some.inj h
  exact AW.ret (hR_0 _ (retX (.cons (.tmp rfl) (.cons (.tmp rfl) .nil)) (.refl _) rfl (by kernel_rfl) (by kernel_rfl)))
 ·have h := ifF hb_5 h
  refine AW.skip ?_
  refine hK_4 _ ?_
  refine AW.sa fokW [] ⟨[(1, .d (I along)), (2, .ptr 0 0), (6, .d (.sl 1 (List.map e47 r0_4))), (8, .ptr 1 0)], [(1, .var 25 (cv25 b)), (0, .var 25 (cv25 b))], 2, Fr.emp, [], 0⟩ (by kernel_rfl) ?_
  refine AW.srwK (fun Q_6 hQ_6 => ?_)
  refine RW.au fokW 3 [] ⟨[(1, .d (I along)), (6, .d (.sl 1 (List.map e47 r0_4))), (8, .ptr 1 0), (23, .own 2 (List.map e70 []).length), (25, .d (.sl 4 (List.map e70 b.Parts)))], [(2, .row 70 4 (List.map e70 [])), (1, .var 25 (cv25 b))], 3, Fr.emp, [], 0⟩ (by kernel_rfl) ?_
  obtain ⟨l, hv_7, h⟩ := bsome h
  refine RW.one fokW (r_apD trivial rfl rfl rfl rfl (apz hv_7 e70) (apr hv_7 e70) (r_end ?_))
  refine RW.au fokW 3 [] ⟨[(6, .d (.sl 1 (List.map e47 r0_4))), (8, .ptr 1 0), (26, .own 2 (List.map e70 l).length), (29, .own 3 (List.map e70 [(StandPart.mk (Span.mk 0 0) along 0)]).length)], [(3, .row 70 4 (List.map e70 [(StandPart.mk (Span.mk 0 0) along 0)])), (2, .row 70 4 (List.map e70 l)), (1, .var 25 (cv25 b))], 4, Fr.emp, [], 0⟩ (by kernel_rfl) ?_
  obtain ⟨l1, hv_8, h⟩ := bsome h
  refine RW.one fokW (r_apO trivial rfl rfl rfl rfl rfl rfl (apz hv_8 e70) (apr hv_8 e70) (r_end ?_))
  refine RW.au fokW 2 [] ⟨[(6, .d (.sl 1 (List.map e47 r0_4))), (8, .ptr 1 0)], [(1, .var 25 [.d (I b.Kind), .d (I b.Front), .d (I b.Back), .d (I b.Radius), .own 2 (List.map e70 l1).length, .d (I b.Along), .d (I b.High), .d (I b.Lean_), .d (I b.Limit), .d (.sl 3 (List.map e65 b.Trials))]), (2, .row 70 4 (List.map e70 l1))], 4, Fr.emp, [], 0⟩ (by kernel_rfl) ?_
  refine RW.nil ?_
  refine hQ_6 _ ?_
  refine AW.seqK (fun K_9 hK_9 => ?_)
  refine AW.sa fokW [] ⟨[(6, .d (.sl 1 (List.map e47 r0_4))), (8, .ptr 1 0), (9, .d (I 0))], [(1, .var 25 [.d (I b.Kind), .d (I b.Front), .d (I b.Back), .d (I b.Radius), .own 2 (List.map e70 l1).length, .d (I b.Along), .d (I b.High), .d (I b.Lean_), .d (I b.Limit), .d (.sl 3 (List.map e65 b.Trials))]), (2, .row 70 4 (List.map e70 l1))], 4, Fr.emp, [], 0⟩ (by kernel_rfl) ?_
  refine AW.block ?_
  have hN_10 : (100 : Int) ≤ 9223372036854775807 := by decide
  obtain ⟨out_10, hx_10, hk_10⟩ := bsomeC h
  refine AW.lpCK (fun (lead : Int) (_ : Unit) => ⟨[(6, .d (.sl 1 (List.map e47 r0_4))), (8, .ptr 1 0), (9, .d (I lead))], [(1, .var 25 [.d (I b.Kind), .d (I b.Front), .d (I b.Back), .d (I b.Radius), .own 2 (List.map e70 l1).length, .d (I b.Along), .d (I b.High), .d (I b.Lean_), .d (I b.Limit), .d (.sl 3 (List.map e65 b.Trials))]), (2, .row 70 4 (List.map e70 l1))], 4, Fr.emp, [], 0⟩) (g32_10 b r0_4 l1) (100) hx_10 (Can.kp (by kernel_rfl)) (fun lead s_10 hi_10 hl_10 c_10 h hb_10 K_10 hK_10 => ?_) (fun lead s_10 hi_10 hl_10 hout => ?_)
  ·unfold g32_10 at h
   refine AW.seqK (fun K_11 hK_11 => ?_)
   refine AW.sa fokW [] ⟨[(6, .d (.sl 1 (List.map e47 r0_4))), (8, .ptr 1 0), (9, .d (I lead)), (33, .d (.bool (decide (lead ≤ 99))))], [(1, .var 25 [.d (I b.Kind), .d (I b.Front), .d (I b.Back), .d (I b.Radius), .own 2 (List.map e70 l1).length, .d (I b.Along), .d (I b.High), .d (I b.Lean_), .d (I b.Limit), .d (.sl 3 (List.map e65 b.Trials))]), (2, .row 70 4 (List.map e70 l1))], 4, Fr.emp, [], 0⟩ (by kernel_rfl) ?_
   refine AW.cond rfl (fun hb_12 => ?_) (fun hb_12 => False.elim (by have := of_decide_eq_false hb_12; omega))
   refine AW.skip ?_
   refine hK_11 _ ?_
   refine AW.seqK (fun K_13 hK_13 => ?_)
   refine AW.block ?_
   refine AW.sa fokW [] ⟨[(6, .d (.sl 1 (List.map e47 r0_4))), (8, .ptr 1 0), (9, .d (I lead)), (10, .d (.nilSl))], [(1, .var 25 [.d (I b.Kind), .d (I b.Front), .d (I b.Back), .d (I b.Radius), .own 2 (List.map e70 l1).length, .d (I b.Along), .d (I b.High), .d (I b.Lean_), .d (I b.Limit), .d (.sl 3 (List.map e65 b.Trials))]), (2, .row 70 4 (List.map e70 l1))], 4, Fr.emp, [], 0⟩ (by kernel_rfl) ?_
   refine AW.seqK (fun K_14 hK_14 => ?_)
   refine AW.sa fokW [] ⟨[(6, .d (.sl 1 (List.map e47 r0_4))), (8, .ptr 1 0), (9, .d (I lead)), (10, .d (.nilSl)), (11, .d (I 0))], [(1, .var 25 [.d (I b.Kind), .d (I b.Front), .d (I b.Back), .d (I b.Radius), .own 2 (List.map e70 l1).length, .d (I b.Along), .d (I b.High), .d (I b.Lean_), .d (I b.Limit), .d (.sl 3 (List.map e65 b.Trials))]), (2, .row 70 4 (List.map e70 l1))], 4, Fr.emp, [], 0⟩ (by kernel_rfl) ?_
   refine AW.block ?_
   refine AW.sln (t := 6) rfl (fun hN_15 => ?_)
   rw [List.length_map] at hN_15
   obtain ⟨out_15, hx_15, h⟩ := bsome h
   refine AW.evSK (fun (i : Int) (l2 : List (List Int)) => ⟨[(6, .d (.sl 1 (List.map e47 r0_4))), (8, .ptr 1 0), (9, .d (I lead)), (10, .own 4 (List.map e47 l2).length), (11, .d (I i))], [(4, .row 47 1 (List.map e47 l2)), (1, .var 25 [.d (I b.Kind), .d (I b.Front), .d (I b.Back), .d (I b.Radius), .own 2 (List.map e70 l1).length, .d (I b.Along), .d (I b.High), .d (I b.Lean_), .d (I b.Limit), .d (.sl 3 (List.map e65 b.Trials))]), (2, .row 70 4 (List.map e70 l1))], 5, Fr.emp, [], 0⟩) (g32_15 lead) hx_15 (Can.trans (Can.thawT 10 47 1 rfl rfl) (Can.kp (by kernel_rfl))) (fun i p l2 hi_15 hl_15 hp_15 c_15 h K_15 hK_15 => ?_) (fun i l2 hi_15 hl_15 hout => ?_)
   ·unfold g32_15 at h
    refine AW.seqK (fun K_16 hK_16 => ?_)
    refine AW.srwK (fun Q_17 hQ_17 => ?_)
    refine RW.au fokW 2 [] ⟨[(6, .d (.sl 1 (List.map e47 r0_4))), (8, .ptr 1 0), (9, .d (I lead)), (10, .own 4 (List.map e47 l2).length), (11, .d (I i)), (36, .d (I i)), (37, .d (.sl 1 (List.map e47 r0_4)))], [(4, .row 47 1 (List.map e47 l2)), (1, .var 25 [.d (I b.Kind), .d (I b.Front), .d (I b.Back), .d (I b.Radius), .own 2 (List.map e70 l1).length, .d (I b.Along), .d (I b.High), .d (I b.Lean_), .d (I b.Limit), .d (.sl 3 (List.map e65 b.Trials))]), (2, .row 70 4 (List.map e70 l1))], 5, Fr.emp, [], 0⟩ (by kernel_rfl) ?_
    refine RW.one fokW (r_lenX trivial rfl lenm (r_end ?_))
    refine RW.au fokW 1 [] ⟨[(6, .d (.sl 1 (List.map e47 r0_4))), (8, .ptr 1 0), (9, .d (I lead)), (10, .own 4 (List.map e47 l2).length), (11, .d (I i)), (39, .d (.bool (decide (i < (r0_4.length : Int)))))], [(4, .row 47 1 (List.map e47 l2)), (1, .var 25 [.d (I b.Kind), .d (I b.Front), .d (I b.Back), .d (I b.Radius), .own 2 (List.map e70 l1).length, .d (I b.Along), .d (I b.High), .d (I b.Lean_), .d (I b.Limit), .d (.sl 3 (List.map e65 b.Trials))]), (2, .row 70 4 (List.map e70 l1))], 5, Fr.emp, [], 0⟩ (by kernel_rfl) ?_
    refine RW.nil ?_
    refine hQ_17 _ ?_
    refine AW.cond rfl (fun hb_18 => ?_) (fun hb_18 => False.elim (by have := of_decide_eq_false hb_18; omega))
    refine AW.skip ?_
    refine hK_16 _ ?_
    refine AW.seqK (fun K_19 hK_19 => ?_)
    refine AW.block ?_
    refine AW.rw ?_
    refine RW.au fokW 3 [] ⟨[(6, .d (.sl 1 (List.map e47 r0_4))), (8, .ptr 1 0), (9, .d (I lead)), (11, .d (I i)), (42, .own 4 (List.map e47 l2).length), (43, .d (.sl 1 (List.map e47 r0_4))), (44, .d (I i))], [(4, .row 47 1 (List.map e47 l2)), (1, .var 25 [.d (I b.Kind), .d (I b.Front), .d (I b.Back), .d (I b.Radius), .own 2 (List.map e70 l1).length, .d (I b.Along), .d (I b.High), .d (I b.Lean_), .d (I b.Limit), .d (.sl 3 (List.map e65 b.Trials))]), (2, .row 70 4 (List.map e70 l1))], 5, Fr.emp, [], 0⟩ (by kernel_rfl) ?_
    refine RW.one fokW (r_iaD trivial rfl rfl hi_15 (row := e47 p) (mapget hp_15) (r_end ?_))
    refine RW.au fokW 2 [] ⟨[(6, .d (.sl 1 (List.map e47 r0_4))), (8, .ptr 1 0), (9, .d (I lead)), (11, .d (I i)), (42, .own 4 (List.map e47 l2).length), (46, .d (.sl 1 (List.map e3 p))), (47, .d (I lead))], [(4, .row 47 1 (List.map e47 l2)), (1, .var 25 [.d (I b.Kind), .d (I b.Front), .d (I b.Back), .d (I b.Radius), .own 2 (List.map e70 l1).length, .d (I b.Along), .d (I b.High), .d (I b.Lean_), .d (I b.Limit), .d (.sl 3 (List.map e65 b.Trials))]), (2, .row 70 4 (List.map e70 l1))], 5, Fr.emp, [], 0⟩ (by kernel_rfl) ?_
    obtain ⟨r0_1, hx_21, h⟩ := bsome h
    refine RW.one fokW (r_call trivial rfl (k82 p lead _ hx_21) rfl rfl (r_end ?_))
    refine RW.au fokW 1 [] ⟨[(6, .d (.sl 1 (List.map e47 r0_4))), (8, .ptr 1 0), (9, .d (I lead)), (11, .d (I i)), (42, .own 4 (List.map e47 l2).length), (49, .own 5 (List.map e47 [r0_1]).length)], [(5, .row 47 1 (List.map e47 [r0_1])), (4, .row 47 1 (List.map e47 l2)), (1, .var 25 [.d (I b.Kind), .d (I b.Front), .d (I b.Back), .d (I b.Radius), .own 2 (List.map e70 l1).length, .d (I b.Along), .d (I b.High), .d (I b.Lean_), .d (I b.Limit), .d (.sl 3 (List.map e65 b.Trials))]), (2, .row 70 4 (List.map e70 l1))], 6, Fr.emp, [], 0⟩ (by kernel_rfl) ?_
    obtain ⟨l3, hv_22, h⟩ := bsome h
    refine RW.one fokW (r_apO trivial rfl rfl rfl rfl rfl rfl (apz hv_22 e47) (apr hv_22 e47) (r_end ?_))
    refine RW.au fokW 1 [] ⟨[(6, .d (.sl 1 (List.map e47 r0_4))), (8, .ptr 1 0), (9, .d (I lead)), (10, .own 4 (List.map e47 l3).length), (11, .d (I i))], [(4, .row 47 1 (List.map e47 l3)), (1, .var 25 [.d (I b.Kind), .d (I b.Front), .d (I b.Back), .d (I b.Radius), .own 2 (List.map e70 l1).length, .d (I b.Along), .d (I b.High), .d (I b.Lean_), .d (I b.Limit), .d (.sl 3 (List.map e65 b.Trials))]), (2, .row 70 4 (List.map e70 l1))], 6, Fr.emp, [], 0⟩ (by kernel_rfl) ?_
    refine RW.nil ?_
    refine hK_19 _ ?_
    refine AW.ra fokW [] ⟨[(6, .d (.sl 1 (List.map e47 r0_4))), (8, .ptr 1 0), (9, .d (I lead)), (10, .own 4 (List.map e47 l3).length), (11, .d (I (wr (i + 1))))], [(4, .row 47 1 (List.map e47 l3)), (1, .var 25 [.d (I b.Kind), .d (I b.Front), .d (I b.Back), .d (I b.Radius), .own 2 (List.map e70 l1).length, .d (I b.Along), .d (I b.High), .d (I b.Lean_), .d (I b.Limit), .d (.sl 3 (List.map e65 b.Trials))]), (2, .row 70 4 (List.map e70 l1))], 6, Fr.emp, [], 0⟩ (by kernel_rfl) ?_
    obtain rfl := Option.some.inj h
    have ew : wr (i + 1) = i + 1 := inext (N := (r0_4.length : Int)) (by omega) (by omega) (by omega)
    rw [ew]
    exact hK_15 _ (Can.kp (by kernel_rfl))
   ·subst hout
    refine AW.seqK (fun K_23 hK_23 => ?_)
    refine AW.srwK (fun Q_24 hQ_24 => ?_)
    refine RW.au fokW 2 [] ⟨[(6, .d (.sl 1 (List.map e47 r0_4))), (8, .ptr 1 0), (9, .d (I lead)), (10, .own 4 (List.map e47 l2).length), (11, .d (I i)), (36, .d (I i)), (37, .d (.sl 1 (List.map e47 r0_4)))], [(4, .row 47 1 (List.map e47 l2)), (1, .var 25 [.d (I b.Kind), .d (I b.Front), .d (I b.Back), .d (I b.Radius), .own 2 (List.map e70 l1).length, .d (I b.Along), .d (I b.High), .d (I b.Lean_), .d (I b.Limit), .d (.sl 3 (List.map e65 b.Trials))]), (2, .row 70 4 (List.map e70 l1))], 5, Fr.emp, [], 0⟩ (by kernel_rfl) ?_
    refine RW.one fokW (r_lenX trivial rfl lenm (r_end ?_))
    refine RW.au fokW 1 [] ⟨[(6, .d (.sl 1 (List.map e47 r0_4))), (8, .ptr 1 0), (9, .d (I lead)), (10, .own 4 (List.map e47 l2).length), (11, .d (I i)), (39, .d (.bool (decide (i < (r0_4.length : Int)))))], [(4, .row 47 1 (List.map e47 l2)), (1, .var 25 [.d (I b.Kind), .d (I b.Front), .d (I b.Back), .d (I b.Radius), .own 2 (List.map e70 l1).length, .d (I b.Along), .d (I b.High), .d (I b.Lean_), .d (I b.Limit), .d (.sl 3 (List.map e65 b.Trials))]), (2, .row 70 4 (List.map e70 l1))], 5, Fr.emp, [], 0⟩ (by kernel_rfl) ?_
    refine RW.nil ?_
    refine hQ_24 _ ?_
    refine AW.cond rfl (fun hb_25 => False.elim (by have := of_decide_eq_true hb_25; omega)) (fun hb_25 => ?_)
    refine AW.exit ?_
    refine hK_14 _ ?_
    refine AW.srwK (fun Q_26 hQ_26 => ?_)
    refine RW.au fokW 2 [] ⟨[(6, .d (.sl 1 (List.map e47 r0_4))), (8, .ptr 1 0), (9, .d (I lead)), (51, .agg [.d (I b.Kind), .d (I b.Front), .d (I b.Back), .d (I b.Radius), .own 2 (List.map e70 l1).length, .d (I b.Along), .d (I b.High), .d (I b.Lean_), .d (I b.Limit), .d (.sl 3 (List.map e65 b.Trials))]), (52, .own 4 (List.map e47 l2).length)], [(4, .row 47 1 (List.map e47 l2)), (1, .var 25 [.d (I b.Kind), .d (I b.Front), .d (I b.Back), .d (I b.Radius), .own 2 (List.map e70 l1).length, .d (I b.Along), .d (I b.High), .d (I b.Lean_), .d (I b.Limit), .d (.sl 3 (List.map e65 b.Trials))]), (2, .row 70 4 (List.map e70 l1))], 5, Fr.emp, [], 0⟩ (by kernel_rfl) ?_
    obtain ⟨r0_1_1, hx_27, h⟩ := bsome h
    refine RW.one fokW (r_callF (rs := [(2, .row 70 4 (List.map e70 l1)), (4, .row 47 1 (List.map e47 l2))]) trivial rfl (k78 (StandBook.mk b.Kind b.Front b.Back b.Radius l1 b.Along b.High b.Lean_ b.Limit b.Trials) l2 _ hx_27) ⟨rfl, rfl, trivial⟩ ⟨(Frz.agg_of ⟨.refl _, .refl _, .refl _, .refl _, (.own rfl rfl), .refl _, .refl _, .refl _, .refl _, .refl _, trivial⟩), (.own rfl rfl), trivial⟩ rfl rfl rfl (r_end ?_))
    refine RW.au fokW 1 [] ⟨[(6, .d (.sl 1 (List.map e47 r0_4))), (8, .ptr 1 0), (9, .d (I lead)), (54, .d (.bool (decide (r0_1_1 = 0))))], [(1, .var 25 [.d (I b.Kind), .d (I b.Front), .d (I b.Back), .d (I b.Radius), .own 2 (List.map e70 l1).length, .d (I b.Along), .d (I b.High), .d (I b.Lean_), .d (I b.Limit), .d (.sl 3 (List.map e65 b.Trials))]), (2, .row 70 4 (List.map e70 l1))], 5, Fr.emp, [], 0⟩ (by kernel_rfl) ?_
    refine RW.nil ?_
    refine hQ_26 _ ?_
    refine AW.cond rfl (fun hb_28 => ?_) (fun hb_28 => ?_)
    ·have h := ifT hb_28 h
     refine AW.sa fokW [] ⟨[(4, .d (I lead)), (5, .d (I 0))], [], 5, Fr.emp, [], 0⟩ (by kernel_rfl) ?_
     obtain rfl := Option.some.inj h
     have e_1 := hb_10 _ rfl
     subst e_1
     obtain rfl := Aft.bk hk_10
     exact AW.ret (hR_0 _ (retX (.cons (.tmp rfl) (.cons (.tmp rfl) .nil)) (.refl _) rfl (by kernel_rfl) (by kernel_rfl)))
    ·have h := ifF hb_28 h
     refine AW.skip ?_
     refine hK_13 _ ?_
     refine AW.ra fokW [] ⟨[(6, .d (.sl 1 (List.map e47 r0_4))), (8, .ptr 1 0), (9, .d (I (wr (lead + 1))))], [(1, .var 25 [.d (I b.Kind), .d (I b.Front), .d (I b.Back), .d (I b.Radius), .own 2 (List.map e70 l1).length, .d (I b.Along), .d (I b.High), .d (I b.Lean_), .d (I b.Limit), .d (.sl 3 (List.map e65 b.Trials))]), (2, .row 70 4 (List.map e70 l1))], 5, Fr.emp, [], 0⟩ (by kernel_rfl) ?_
     obtain rfl := Option.some.inj h
     have ew : wr (lead + 1) = lead + 1 := inext (N := 100) (by omega) (by omega) (by omega)
     rw [ew]
     exact hK_10 _ _ rfl (Can.kp (by kernel_rfl))
  ·subst hout
   have h := Aft.nx hk_10
   refine AW.seqK (fun K_29 hK_29 => ?_)
   refine AW.sa fokW [] ⟨[(6, .d (.sl 1 (List.map e47 r0_4))), (8, .ptr 1 0), (9, .d (I lead)), (33, .d (.bool (decide (lead ≤ 99))))], [(1, .var 25 [.d (I b.Kind), .d (I b.Front), .d (I b.Back), .d (I b.Radius), .own 2 (List.map e70 l1).length, .d (I b.Along), .d (I b.High), .d (I b.Lean_), .d (I b.Limit), .d (.sl 3 (List.map e65 b.Trials))]), (2, .row 70 4 (List.map e70 l1))], 4, Fr.emp, [], 0⟩ (by kernel_rfl) ?_
   refine AW.cond rfl (fun hb_30 => False.elim (by have := of_decide_eq_true hb_30; omega)) (fun hb_30 => ?_)
   refine AW.exit ?_
   refine hK_9 _ ?_
   refine AW.sa fokW [] ⟨[(4, .d (I 0)), (5, .d (I 4))], [], 4, Fr.emp, [], 0⟩ (by kernel_rfl) ?_
   obtain rfl := Option.some.inj h
   exact AW.ret (hR_0 _ (retX (.cons (.tmp rfl) (.cons (.tmp rfl) .nil)) (.refl _) rfl (by kernel_rfl) (by kernel_rfl)))
def g34_6 (b : StandBook) (r0_4 : (List (List Int))) : Int → Unit → Option (Ctl (Unit) (Int × Int)) := fun n _ => (g78 (StandBook.mk b.Kind (wr (b.Front + n)) (wr (b.Back + n)) b.Radius b.Parts b.Along b.High b.Lean_ b.Limit b.Trials) r0_4).bind fun r0_1 => bif (decide (r0_1 = 0)) then (some (.brk (n, 0))) else (some (.next ()))
def g34 (b : StandBook) : Option (Int × Int) := (g71 b true).bind fun (r0_4, r1_3) => bif (decide (r1_3 ≠ 0)) then (some (0, r1_3)) else (bindC (forC (g34_6 b r0_4) (((21 : Int) - 0).toNat) 0 ()) fun _ => some (0, 4))
theorem k34 (b : StandBook) (r : Int × Int) (h : g34 b = some r) : SCall Tryd.prog Gs 34 [.agg (cv25 b)] [] 0 Fr.emp (match r with | (r0_3, r1_2) => .tup [.d (I r0_3), .d (I r1_2)]) [] 0 Fr.emp := by
 unfold g34 at h
 refine SCall.mkK Tryd.func34 c34 rfl rfl (by kernel_rfl) (fun Q_0 hR_0 hN_0 => ?_)
 refine AW.sa fokW [] ⟨[(1, .ptr 0 0)], [(0, .var 25 (cv25 b))], 1, Fr.emp, [], 0⟩ (by kernel_rfl) ?_
 refine AW.srwK (fun Q_1 hQ_1 => ?_)
 refine RW.au fokW 1 [] ⟨[(1, .ptr 0 0), (9, .agg (cv25 b))], [(0, .var 25 (cv25 b))], 1, Fr.emp, [], 0⟩ (by kernel_rfl) ?_
 obtain ⟨⟨r0_4, r1_3⟩, hx_2, h⟩ := bsome h
 refine RW.one fokW (r_call trivial rfl (k71 b true _ hx_2) rfl rfl (r_end ?_))
 refine RW.au fokW 5 [] ⟨[(1, .ptr 0 0), (4, .d (.sl 1 (List.map e47 r0_4))), (5, .d (I r1_3))], [(0, .var 25 (cv25 b))], 1, Fr.emp, [], 0⟩ (by kernel_rfl) ?_
 refine RW.nil ?_
 refine hQ_1 _ ?_
 refine AW.seqK (fun K_3 hK_3 => ?_)
 refine AW.sa fokW [] ⟨[(1, .ptr 0 0), (4, .d (.sl 1 (List.map e47 r0_4))), (5, .d (I r1_3)), (14, .d (.bool (decide (r1_3 ≠ 0))))], [(0, .var 25 (cv25 b))], 1, Fr.emp, [], 0⟩ (by kernel_rfl) ?_
 refine AW.cond rfl (fun hb_4 => ?_) (fun hb_4 => ?_)
 ·have h := ifT hb_4 h
  refine AW.sa fokW [] ⟨[(2, .d (I 0)), (3, .d (I r1_3))], [], 1, Fr.emp, [], 0⟩ (by kernel_rfl) ?_
  obtain rfl := Option.some.inj h
  exact AW.ret (hR_0 _ (retX (.cons (.tmp rfl) (.cons (.tmp rfl) .nil)) (.refl _) rfl (by kernel_rfl) (by kernel_rfl)))
 ·have h := ifF hb_4 h
  refine AW.skip ?_
  refine hK_3 _ ?_
  refine AW.seqK (fun K_5 hK_5 => ?_)
  refine AW.sa fokW [] ⟨[(1, .ptr 0 0), (4, .d (.sl 1 (List.map e47 r0_4))), (6, .d (I 0))], [(0, .var 25 (cv25 b))], 1, Fr.emp, [], 0⟩ (by kernel_rfl) ?_
  refine AW.block ?_
  have hN_6 : (21 : Int) ≤ 9223372036854775807 := by decide
  obtain ⟨out_6, hx_6, hk_6⟩ := bsomeC h
  refine AW.lpCK (fun (n : Int) (_ : Unit) => ⟨[(1, .ptr 0 0), (4, .d (.sl 1 (List.map e47 r0_4))), (6, .d (I n))], [(0, .var 25 (cv25 b))], 1, Fr.emp, [], 0⟩) (g34_6 b r0_4) (21) hx_6 (Can.kp (by kernel_rfl)) (fun n s_6 hi_6 hl_6 c_6 h hb_6 K_6 hK_6 => ?_) (fun n s_6 hi_6 hl_6 hout => ?_)
  ·unfold g34_6 at h
   refine AW.seqK (fun K_7 hK_7 => ?_)
   refine AW.sa fokW [] ⟨[(1, .ptr 0 0), (4, .d (.sl 1 (List.map e47 r0_4))), (6, .d (I n)), (17, .d (.bool (decide (n ≤ 20))))], [(0, .var 25 (cv25 b))], 1, Fr.emp, [], 0⟩ (by kernel_rfl) ?_
   refine AW.cond rfl (fun hb_8 => ?_) (fun hb_8 => False.elim (by have := of_decide_eq_false hb_8; omega))
   refine AW.skip ?_
   refine hK_7 _ ?_
   refine AW.seqK (fun K_9 hK_9 => ?_)
   refine AW.block ?_
   refine AW.sa fokW [] ⟨[(1, .ptr 0 0), (4, .d (.sl 1 (List.map e47 r0_4))), (6, .d (I n)), (7, .ptr 1 0)], [(1, .var 25 (cv25 b)), (0, .var 25 (cv25 b))], 2, Fr.emp, [], 0⟩ (by kernel_rfl) ?_
   refine AW.sa fokW [] ⟨[(1, .ptr 0 0), (4, .d (.sl 1 (List.map e47 r0_4))), (6, .d (I n)), (7, .ptr 1 0)], [(1, .var 25 [.d (I b.Kind), .d (I (wr (b.Front + n))), .d (I (wr (b.Back + n))), .d (I b.Radius), .d (.sl 4 (List.map e70 b.Parts)), .d (I b.Along), .d (I b.High), .d (I b.Lean_), .d (I b.Limit), .d (.sl 3 (List.map e65 b.Trials))]), (0, .var 25 (cv25 b))], 2, Fr.emp, [], 0⟩ (by kernel_rfl) ?_
   refine AW.srwK (fun Q_10 hQ_10 => ?_)
   refine RW.au fokW 2 [] ⟨[(1, .ptr 0 0), (4, .d (.sl 1 (List.map e47 r0_4))), (6, .d (I n)), (31, .agg [.d (I b.Kind), .d (I (wr (b.Front + n))), .d (I (wr (b.Back + n))), .d (I b.Radius), .d (.sl 4 (List.map e70 b.Parts)), .d (I b.Along), .d (I b.High), .d (I b.Lean_), .d (I b.Limit), .d (.sl 3 (List.map e65 b.Trials))]), (32, .d (.sl 1 (List.map e47 r0_4)))], [(0, .var 25 (cv25 b))], 2, Fr.emp, [], 0⟩ (by kernel_rfl) ?_
   obtain ⟨r0_1, hx_11, h⟩ := bsome h
   refine RW.one fokW (r_call trivial rfl (k78 (StandBook.mk b.Kind (wr (b.Front + n)) (wr (b.Back + n)) b.Radius b.Parts b.Along b.High b.Lean_ b.Limit b.Trials) r0_4 _ hx_11) rfl rfl (r_end ?_))
   refine RW.au fokW 1 [] ⟨[(1, .ptr 0 0), (4, .d (.sl 1 (List.map e47 r0_4))), (6, .d (I n)), (34, .d (.bool (decide (r0_1 = 0))))], [(0, .var 25 (cv25 b))], 2, Fr.emp, [], 0⟩ (by kernel_rfl) ?_
   refine RW.nil ?_
   refine hQ_10 _ ?_
   refine AW.cond rfl (fun hb_12 => ?_) (fun hb_12 => ?_)
   ·have h := ifT hb_12 h
    refine AW.sa fokW [] ⟨[(2, .d (I n)), (3, .d (I 0))], [], 2, Fr.emp, [], 0⟩ (by kernel_rfl) ?_
    obtain rfl := Option.some.inj h
    have e_1 := hb_6 _ rfl
    subst e_1
    obtain rfl := Aft.bk hk_6
    exact AW.ret (hR_0 _ (retX (.cons (.tmp rfl) (.cons (.tmp rfl) .nil)) (.refl _) rfl (by kernel_rfl) (by kernel_rfl)))
   ·have h := ifF hb_12 h
    refine AW.skip ?_
    refine hK_9 _ ?_
    refine AW.ra fokW [] ⟨[(1, .ptr 0 0), (4, .d (.sl 1 (List.map e47 r0_4))), (6, .d (I (wr (n + 1))))], [(0, .var 25 (cv25 b))], 2, Fr.emp, [], 0⟩ (by kernel_rfl) ?_
    obtain rfl := Option.some.inj h
    have ew : wr (n + 1) = n + 1 := inext (N := 21) (by omega) (by omega) (by omega)
    rw [ew]
    exact hK_6 _ _ rfl (Can.kp (by kernel_rfl))
  ·subst hout
   have h := Aft.nx hk_6
   refine AW.seqK (fun K_13 hK_13 => ?_)
   refine AW.sa fokW [] ⟨[(1, .ptr 0 0), (4, .d (.sl 1 (List.map e47 r0_4))), (6, .d (I n)), (17, .d (.bool (decide (n ≤ 20))))], [(0, .var 25 (cv25 b))], 1, Fr.emp, [], 0⟩ (by kernel_rfl) ?_
   refine AW.cond rfl (fun hb_14 => False.elim (by have := of_decide_eq_true hb_14; omega)) (fun hb_14 => ?_)
   refine AW.exit ?_
   refine hK_5 _ ?_
   refine AW.sa fokW [] ⟨[(2, .d (I 0)), (3, .d (I 4))], [], 1, Fr.emp, [], 0⟩ (by kernel_rfl) ?_
   obtain rfl := Option.some.inj h
   exact AW.ret (hR_0 _ (retX (.cons (.tmp rfl) (.cons (.tmp rfl) .nil)) (.refl _) rfl (by kernel_rfl) (by kernel_rfl)))
def g92 (set_ : Int) (n : Int) : Option Bool := (must (decide (0 ≤ n))).bind fun _ => some (decide ((bAnd (shr64 set_ n) 1) = 1))
theorem k92 (set_ : Int) (n : Int) (r : Bool) (h : g92 set_ n = some r) : SCall Tryd.prog Gs 92 [.d (I set_), .d (I n)] [] 0 Fr.emp (.d (.bool r)) [] 0 Fr.emp := by
 unfold g92 at h
 refine SCall.mkK Tryd.func92 c92 rfl rfl (by kernel_rfl) (fun Q_0 hR_0 hN_0 => ?_)
 refine AW.sa fokW [] ⟨[(0, .d (I set_)), (1, .d (I n))], [], 0, Fr.emp, [], 0⟩ (by kernel_rfl) ?_
 refine AW.srwK (fun Q_1 hQ_1 => ?_)
 refine RW.au fokW 2 [] ⟨[(5, .d (I set_)), (6, .d (I n))], [], 0, Fr.emp, [], 0⟩ (by kernel_rfl) ?_
 obtain ⟨_, hv_2, h⟩ := bsome h
 refine RW.one fokW (r_sh trivial rfl rfl (shr64_ok (of_decide_eq_true (must_ok hv_2))) (r_end ?_))
 refine RW.au fokW 3 [] ⟨[(4, .d (.bool (decide ((bAnd (shr64 set_ n) 1) = 1))))], [], 0, Fr.emp, [], 0⟩ (by kernel_rfl) ?_
 refine RW.nil ?_
 refine hQ_1 _ ?_
 obtain rfl := Option.some.inj h
 exact AW.ret (hR_0 _ (retX (.cons (.tmp rfl) .nil) (.refl _) rfl (by kernel_rfl) (by kernel_rfl)))
def g53_2 (set_ : Int) : Int → (List Int) → Option (List Int) := fun n l => (g92 set_ n).bind fun r0 => bif r0 then ((appL 8 l [n]).bind fun l1 => some l1) else (some l)
def g53 (set_ : Int) (below : Int) : Option (List Int) := (must (decide (below ≤ 9223372036854775807))).bind fun _ => (forS (g53_2 set_) (((below : Int) - 0).toNat) 0 ([] : List Int)).bind fun l => some l
theorem k53 (set_ : Int) (below : Int) (r : (List Int)) (h : g53 set_ below = some r) : SCall Tryd.prog Gs 53 [.d (I set_), .d (I below)] [] 0 Fr.emp (.d (.sl 1 (List.map e3 r))) [] 0 Fr.emp := by
 unfold g53 at h
 refine SCall.mkK Tryd.func53 c53 rfl rfl (by kernel_rfl) (fun Q_0 hR_0 hN_0 => ?_)
 refine AW.sa fokW [] ⟨[(0, .d (I set_)), (1, .d (I below))], [], 0, Fr.emp, [], 0⟩ (by kernel_rfl) ?_
 refine AW.sa fokW [] ⟨[(0, .d (I set_)), (1, .d (I below)), (5, .own 0 (List.map e3 []).length)], [(0, .row 3 1 (List.map e3 []))], 1, Fr.emp, [], 0⟩ (by kernel_rfl) ?_
 refine AW.seqK (fun K_1 hK_1 => ?_)
 refine AW.sa fokW [] ⟨[(0, .d (I set_)), (1, .d (I below)), (5, .own 0 (List.map e3 []).length), (6, .d (I 0))], [(0, .row 3 1 (List.map e3 []))], 1, Fr.emp, [], 0⟩ (by kernel_rfl) ?_
 refine AW.block ?_
 obtain ⟨_, hN_2, h⟩ := bsome h
 have hN_2 := of_decide_eq_true (must_ok hN_2)
 obtain ⟨out_2, hx_2, h⟩ := bsome h
 refine AW.lpSK (fun (n : Int) (l : List Int) => ⟨[(0, .d (I set_)), (1, .d (I below)), (5, .own 0 (List.map e3 l).length), (6, .d (I n))], [(0, .row 3 1 (List.map e3 l))], 1, Fr.emp, [], 0⟩) (g53_2 set_) (below) hx_2 (Can.kp (by kernel_rfl)) (fun n l hi_2 hl_2 c_2 h K_2 hK_2 => ?_) (fun n l hi_2 hl_2 hout => ?_)
 ·unfold g53_2 at h
  refine AW.seqK (fun K_3 hK_3 => ?_)
  refine AW.sa fokW [] ⟨[(0, .d (I set_)), (1, .d (I below)), (5, .own 0 (List.map e3 l).length), (6, .d (I n)), (10, .d (.bool (decide (n < below))))], [(0, .row 3 1 (List.map e3 l))], 1, Fr.emp, [], 0⟩ (by kernel_rfl) ?_
  refine AW.cond rfl (fun hb_4 => ?_) (fun hb_4 => False.elim (by have := of_decide_eq_false hb_4; omega))
  refine AW.skip ?_
  refine hK_3 _ ?_
  refine AW.seqK (fun K_5 hK_5 => ?_)
  refine AW.block ?_
  refine AW.srwK (fun Q_6 hQ_6 => ?_)
  refine RW.au fokW 2 [] ⟨[(0, .d (I set_)), (1, .d (I below)), (5, .own 0 (List.map e3 l).length), (6, .d (I n)), (13, .d (I set_)), (14, .d (I n))], [(0, .row 3 1 (List.map e3 l))], 1, Fr.emp, [], 0⟩ (by kernel_rfl) ?_
  obtain ⟨r0, hx_7, h⟩ := bsome h
  refine RW.one fokW (r_call trivial rfl (k92 set_ n _ hx_7) rfl rfl (r_end ?_))
  refine RW.nil ?_
  refine hQ_6 _ ?_
  refine AW.cond rfl (fun hb_8 => ?_) (fun hb_8 => ?_)
  ·have h := ifT hb_8 h
   refine AW.rw ?_
   refine RW.au fokW 3 [] ⟨[(0, .d (I set_)), (1, .d (I below)), (6, .d (I n)), (16, .own 0 (List.map e3 l).length), (18, .own 1 (List.map e3 [n]).length)], [(1, .row 3 1 (List.map e3 [n])), (0, .row 3 1 (List.map e3 l))], 2, Fr.emp, [], 0⟩ (by kernel_rfl) ?_
   obtain ⟨l1, hv_10, h⟩ := bsome h
   refine RW.one fokW (r_apO trivial rfl rfl rfl rfl rfl rfl (apz hv_10 e3) (apr hv_10 e3) (r_end ?_))
   refine RW.au fokW 1 [] ⟨[(0, .d (I set_)), (1, .d (I below)), (5, .own 0 (List.map e3 l1).length), (6, .d (I n))], [(0, .row 3 1 (List.map e3 l1))], 2, Fr.emp, [], 0⟩ (by kernel_rfl) ?_
   refine RW.nil ?_
   refine hK_5 _ ?_
   refine AW.ra fokW [] ⟨[(0, .d (I set_)), (1, .d (I below)), (5, .own 0 (List.map e3 l1).length), (6, .d (I (wr (n + 1))))], [(0, .row 3 1 (List.map e3 l1))], 2, Fr.emp, [], 0⟩ (by kernel_rfl) ?_
   obtain rfl := Option.some.inj h
   have ew : wr (n + 1) = n + 1 := inext (N := below) (by omega) (by omega) (by omega)
   rw [ew]
   exact hK_2 _ (Can.kp (by kernel_rfl))
  ·have h := ifF hb_8 h
   refine AW.skip ?_
   refine hK_5 _ ?_
   refine AW.ra fokW [] ⟨[(0, .d (I set_)), (1, .d (I below)), (5, .own 0 (List.map e3 l).length), (6, .d (I (wr (n + 1))))], [(0, .row 3 1 (List.map e3 l))], 1, Fr.emp, [], 0⟩ (by kernel_rfl) ?_
   obtain rfl := Option.some.inj h
   have ew : wr (n + 1) = n + 1 := inext (N := below) (by omega) (by omega) (by omega)
   rw [ew]
   exact hK_2 _ (Can.kp (by kernel_rfl))
 ·subst hout
  refine AW.seqK (fun K_11 hK_11 => ?_)
  refine AW.sa fokW [] ⟨[(0, .d (I set_)), (1, .d (I below)), (5, .own 0 (List.map e3 l).length), (6, .d (I n)), (10, .d (.bool (decide (n < below))))], [(0, .row 3 1 (List.map e3 l))], 1, Fr.emp, [], 0⟩ (by kernel_rfl) ?_
  refine AW.cond rfl (fun hb_12 => False.elim (by have := of_decide_eq_true hb_12; omega)) (fun hb_12 => ?_)
  refine AW.exit ?_
  refine hK_1 _ ?_
  refine AW.sa fokW [] ⟨[(4, .own 0 (List.map e3 l).length)], [(0, .row 3 1 (List.map e3 l))], 1, Fr.emp, [], 0⟩ (by kernel_rfl) ?_
  obtain rfl := Option.some.inj h
  exact AW.ret (hR_0 _ (retX (.cons (.tmp rfl) .nil) (.own rfl rfl) rfl (by kernel_rfl) (by kernel_rfl)))
def g93_3 (l : (List Int)) (m : (List Int)) : Int → Option (Ctl (Int) (Ctl (Unit) (Ctl (Unit) (Bool)))) := fun  i => (bif (decide (i < (l.length : Int))) then (some (decide (i < (m.length : Int)))) else (some false)).bind fun v => bif v then ((ixL l i).bind fun p => (ixL m i).bind fun p1 => bif (decide (p ≠ p1)) then (some (.brk (.brk (.brk (decide (p < p1)))))) else (some (.next (wr (i + 1))))) else (some (.brk (.next ())))
def g93 (l : (List Int)) (m : (List Int)) : Option Bool := bindC (bindC (whileC (g93_3 l m) 1000 0 : Option (Ctl (Unit) (Ctl (Unit) (Bool)))) fun _ => some (.next ()) : Option (Ctl (Unit) (Bool))) fun _ => some (decide ((l.length : Int) < (m.length : Int)))
theorem k93 (l : (List Int)) (m : (List Int)) (r : Bool) (h : g93 l m = some r) : SCall Tryd.prog Gs 93 [.d (.sl 1 (List.map e3 l)), .d (.sl 1 (List.map e3 m))] [] 0 Fr.emp (.d (.bool r)) [] 0 Fr.emp := by
 unfold g93 at h
 refine SCall.mkK Tryd.func93 c93 rfl rfl (by kernel_rfl) (fun Q_0 hR_0 hN_0 => ?_)
 refine AW.sa fokW [] ⟨[(0, .d (.sl 1 (List.map e3 l))), (1, .d (.sl 1 (List.map e3 m)))], [], 0, Fr.emp, [], 0⟩ (by kernel_rfl) ?_
 obtain ⟨c_1, hx_1, hk_1⟩ := bsomeC h
 refine AW.jnK (fun (_ : Unit) => ⟨[(0, .d (.sl 1 (List.map e3 l))), (1, .d (.sl 1 (List.map e3 m)))], [], 0, Fr.emp, [], 0⟩) (c := c_1) (fun K_1 hK_1 => ?_) (fun j_1 hj_1 => ?_)
 ·have h := hx_1
  refine AW.sa fokW [] ⟨[(0, .d (.sl 1 (List.map e3 l))), (1, .d (.sl 1 (List.map e3 m))), (5, .d (I 0))], [], 0, Fr.emp, [], 0⟩ (by kernel_rfl) ?_
  obtain ⟨c_2, hx_2, hk_2⟩ := bsomeC h
  refine AW.jqK (fun (_ : Unit) => ⟨[(0, .d (.sl 1 (List.map e3 l))), (1, .d (.sl 1 (List.map e3 m)))], [], 0, Fr.emp, [], 0⟩) (c := c_2) (fun K_2 hK_2 => ?_) (fun j_2 hj_2 => ?_)
  ·have h := hx_2
   refine AW.block ?_
   refine AW.whK (fun (i : Int) => ⟨[(0, .d (.sl 1 (List.map e3 l))), (1, .d (.sl 1 (List.map e3 m))), (5, .d (I i))], [], 0, Fr.emp, [], 0⟩) (g93_3 l m) h (Can.kp (by kernel_rfl)) (fun i c_3 h hb_3 K_3 hK_3 => ?_)
   unfold g93_3 at h
   refine AW.seqK (fun K_4 hK_4 => ?_)
   refine AW.srwK (fun Q_5 hQ_5 => ?_)
   refine RW.au fokW 2 [] ⟨[(0, .d (.sl 1 (List.map e3 l))), (1, .d (.sl 1 (List.map e3 m))), (5, .d (I i)), (6, .d (I i)), (7, .d (.sl 1 (List.map e3 l)))], [], 0, Fr.emp, [], 0⟩ (by kernel_rfl) ?_
   refine RW.one fokW (r_lenX trivial rfl lenm (r_end ?_))
   refine RW.au fokW 2 [] ⟨[(0, .d (.sl 1 (List.map e3 l))), (1, .d (.sl 1 (List.map e3 m))), (5, .d (I i)), (10, .d (.bool (decide (i < (l.length : Int)))))], [], 0, Fr.emp, [], 0⟩ (by kernel_rfl) ?_
   obtain ⟨v, hx_6, h⟩ := bsome h
   refine RW.cut fokW 5 (⟨[(0, .d (.sl 1 (List.map e3 l))), (1, .d (.sl 1 (List.map e3 m))), (5, .d (I i)), (15, .d (.bool v))], [], 0, Fr.emp, [], 0⟩) ?_ ?_
   ·refine r_split 10 rfl (fun hb_7 => ?_) (fun hb_7 => ?_)
    ·have h := ifT hb_7 hx_6
     refine RunC.auX 2 ⟨[(0, .d (.sl 1 (List.map e3 l))), (1, .d (.sl 1 (List.map e3 m))), (5, .d (I i)), (10, .d (.bool true)), (11, .d (I i)), (12, .d (.sl 1 (List.map e3 m)))], [], 0, Fr.emp, [], 0⟩ (by kernel_rfl) ?_
     refine r_lenX rfl rfl lenm ?_
     refine RunC.auX 2 ⟨[(0, .d (.sl 1 (List.map e3 l))), (1, .d (.sl 1 (List.map e3 m))), (5, .d (I i)), (11, .d (I i)), (12, .d (.sl 1 (List.map e3 m))), (13, .d (I (m.length : Int))), (14, .d (.bool (decide (i < (m.length : Int))))), (15, .d (.bool (decide (i < (m.length : Int)))))], [], 0, Fr.emp, [], 0⟩ (by kernel_rfl) ?_
     obtain rfl := Option.some.inj h
     refine RunC.finJ (Can.kp (by kernel_rfl))
    ·have h := ifF hb_7 hx_6
     refine RunC.auX 5 ⟨[(0, .d (.sl 1 (List.map e3 l))), (1, .d (.sl 1 (List.map e3 m))), (5, .d (I i)), (11, .undef), (12, .undef), (13, .undef), (14, .undef), (15, .d (.bool false))], [], 0, Fr.emp, [], 0⟩ (by kernel_rfl) ?_
     obtain rfl := Option.some.inj h
     refine RunC.finJ (Can.kp (by kernel_rfl))
   ·refine RW.nil ?_
    refine hQ_5 _ ?_
    refine AW.cond rfl (fun hb_8 => ?_) (fun hb_8 => ?_)
    ·have h := ifT hb_8 h
     refine AW.skip ?_
     refine hK_4 _ ?_
     refine AW.seqK (fun K_9 hK_9 => ?_)
     refine AW.block ?_
     refine AW.sdrwK fokW (fun Q_10 hQ_10 => ?_)
     refine RunC.auX 2 ⟨[(0, .d (.sl 1 (List.map e3 l))), (1, .d (.sl 1 (List.map e3 m))), (5, .d (I i)), (18, .d (.sl 1 (List.map e3 l))), (19, .d (I i))], [], 0, Fr.emp, [], 0⟩ (by kernel_rfl) ?_
     obtain ⟨p, hv_11, h⟩ := bsome h
     refine r_iaD trivial rfl rfl (ixL_ok hv_11).1 (row := e3 p) (mapget (ixL_ok hv_11).2) ?_
     refine RunC.auX 3 ⟨[(0, .d (.sl 1 (List.map e3 l))), (1, .d (.sl 1 (List.map e3 m))), (5, .d (I i)), (21, .d (I p)), (22, .d (.sl 1 (List.map e3 m))), (23, .d (I i))], [], 0, Fr.emp, [], 0⟩ (by kernel_rfl) ?_
     obtain ⟨p1, hv_12, h⟩ := bsome h
     refine r_iaD trivial rfl rfl (ixL_ok hv_12).1 (row := e3 p1) (mapget (ixL_ok hv_12).2) ?_
     refine RunC.auX 2 ⟨[(0, .d (.sl 1 (List.map e3 l))), (1, .d (.sl 1 (List.map e3 m))), (5, .d (I i)), (26, .d (.bool (decide (p ≠ p1))))], [], 0, Fr.emp, [], 0⟩ (by kernel_rfl) ?_
     refine RunC.fin ⟨[(0, .d (.sl 1 (List.map e3 l))), (1, .d (.sl 1 (List.map e3 m))), (5, .d (I i)), (26, .d (.bool (decide (p ≠ p1))))], [], 0, Fr.emp, [], 0⟩ (by kernel_rfl) (by kernel_rfl) ?_
     refine hQ_10 _ ?_
     refine AW.cond rfl (fun hb_13 => ?_) (fun hb_13 => ?_)
     ·have h := ifT hb_13 h
      refine AW.sdrwK fokW (fun Q_14 hQ_14 => ?_)
      refine RunC.auX 2 ⟨[(1, .d (.sl 1 (List.map e3 m))), (5, .d (I i)), (27, .d (.sl 1 (List.map e3 l))), (28, .d (I i))], [], 0, Fr.emp, [], 0⟩ (by kernel_rfl) ?_
      refine r_iaD trivial rfl rfl (ixL_ok hv_11).1 (row := e3 p) (mapget (ixL_ok hv_11).2) ?_
      refine RunC.auX 3 ⟨[(30, .d (I p)), (31, .d (.sl 1 (List.map e3 m))), (32, .d (I i))], [], 0, Fr.emp, [], 0⟩ (by kernel_rfl) ?_
      refine r_iaD trivial rfl rfl (ixL_ok hv_12).1 (row := e3 p1) (mapget (ixL_ok hv_12).2) ?_
      refine RunC.auX 3 ⟨[(4, .d (.bool (decide (p < p1))))], [], 0, Fr.emp, [], 0⟩ (by kernel_rfl) ?_
      refine RunC.fin ⟨[(4, .d (.bool (decide (p < p1))))], [], 0, Fr.emp, [], 0⟩ (by kernel_rfl) (by kernel_rfl) ?_
      refine hQ_14 _ ?_
      obtain rfl := Option.some.inj h
      obtain rfl := hb_3 _ rfl
      obtain rfl := Aft.bk hk_2
      obtain rfl := Aft.bk hk_1
      exact AW.ret (hR_0 _ (retX (.cons (.tmp rfl) .nil) (.refl _) rfl (by kernel_rfl) (by kernel_rfl)))
     ·have h := ifF hb_13 h
      refine AW.skip ?_
      refine hK_9 _ ?_
      refine AW.ra fokW [] ⟨[(0, .d (.sl 1 (List.map e3 l))), (1, .d (.sl 1 (List.map e3 m))), (5, .d (I (wr (i + 1))))], [], 0, Fr.emp, [], 0⟩ (by kernel_rfl) ?_
      obtain rfl := Option.some.inj h
      exact hK_3 _ _ rfl (Can.kp (by kernel_rfl))
    ·have h := ifF hb_8 h
     refine AW.exit ?_
     obtain rfl := Option.some.inj h
     obtain rfl := hb_3 _ rfl
     exact hK_2 _ _ rfl (Can.kp (by kernel_rfl))
  ·subst hj_2
   have h := Aft.nx hk_2
   obtain rfl := Option.some.inj h
   exact hK_1 _ _ rfl (Can.kp (by kernel_rfl))
 ·subst hj_1
  have h := Aft.nx hk_1
  refine AW.srwK (fun Q_15 hQ_15 => ?_)
  refine RW.au fokW 1 [] ⟨[(1, .d (.sl 1 (List.map e3 m))), (36, .d (.sl 1 (List.map e3 l)))], [], 0, Fr.emp, [], 0⟩ (by kernel_rfl) ?_
  refine RW.one fokW (r_lenX trivial rfl lenm (r_end ?_))
  refine RW.au fokW 1 [] ⟨[(37, .d (I (l.length : Int))), (38, .d (.sl 1 (List.map e3 m)))], [], 0, Fr.emp, [], 0⟩ (by kernel_rfl) ?_
  refine RW.one fokW (r_lenX trivial rfl lenm (r_end ?_))
  refine RW.au fokW 2 [] ⟨[(4, .d (.bool (decide ((l.length : Int) < (m.length : Int)))))], [], 0, Fr.emp, [], 0⟩ (by kernel_rfl) ?_
  refine RW.nil ?_
  refine hQ_15 _ ?_
  obtain rfl := Option.some.inj h
  exact AW.ret (hR_0 _ (retX (.cons (.tmp rfl) .nil) (.refl _) rfl (by kernel_rfl) (by kernel_rfl)))
end Go.Proofs.Tz
namespace Go.Proofs.Tz
open Go Go.Abs Go.Proofs
def g54 (l : (List Int)) (m : (List Int)) : Option Bool := bif (decide ((l.length : Int) ≠ (m.length : Int))) then (some (decide ((l.length : Int) < (m.length : Int)))) else ((g93 l m).bind fun r0_1 => some r0_1)
theorem k54 (l : (List Int)) (m : (List Int)) (r : Bool) (h : g54 l m = some r) : SCall Tryd.prog Gs 54 [.d (.sl 1 (List.map e3 l)), .d (.sl 1 (List.map e3 m))] [] 0 Fr.emp (.d (.bool r)) [] 0 Fr.emp := by
 unfold g54 at h
 refine SCall.mkK Tryd.func54 c54 rfl rfl (by kernel_rfl) (fun Q_0 hR_0 hN_0 => ?_)
 refine AW.sa fokW [] ⟨[(0, .d (.sl 1 (List.map e3 l))), (1, .d (.sl 1 (List.map e3 m)))], [], 0, Fr.emp, [], 0⟩ (by kernel_rfl) ?_
 refine AW.seqK (fun K_1 hK_1 => ?_)
 refine AW.srwK (fun Q_2 hQ_2 => ?_)
 refine RW.au fokW 1 [] ⟨[(0, .d (.sl 1 (List.map e3 l))), (1, .d (.sl 1 (List.map e3 m))), (5, .d (.sl 1 (List.map e3 l)))], [], 0, Fr.emp, [], 0⟩ (by kernel_rfl) ?_
 refine RW.one fokW (r_lenX trivial rfl lenm (r_end ?_))
 refine RW.au fokW 1 [] ⟨[(0, .d (.sl 1 (List.map e3 l))), (1, .d (.sl 1 (List.map e3 m))), (6, .d (I (l.length : Int))), (7, .d (.sl 1 (List.map e3 m)))], [], 0, Fr.emp, [], 0⟩ (by kernel_rfl) ?_
 refine RW.one fokW (r_lenX trivial rfl lenm (r_end ?_))
 refine RW.au fokW 1 [] ⟨[(0, .d (.sl 1 (List.map e3 l))), (1, .d (.sl 1 (List.map e3 m))), (9, .d (.bool (decide ((l.length : Int) ≠ (m.length : Int)))))], [], 0, Fr.emp, [], 0⟩ (by kernel_rfl) ?_
 refine RW.nil ?_
 refine hQ_2 _ ?_
 refine AW.cond rfl (fun hb_3 => ?_) (fun hb_3 => ?_)
 ·have h := ifT hb_3 h
  refine AW.srwK (fun Q_4 hQ_4 => ?_)
  refine RW.au fokW 1 [] ⟨[(1, .d (.sl 1 (List.map e3 m))), (10, .d (.sl 1 (List.map e3 l)))], [], 0, Fr.emp, [], 0⟩ (by kernel_rfl) ?_
  refine RW.one fokW (r_lenX trivial rfl lenm (r_end ?_))
  refine RW.au fokW 1 [] ⟨[(11, .d (I (l.length : Int))), (12, .d (.sl 1 (List.map e3 m)))], [], 0, Fr.emp, [], 0⟩ (by kernel_rfl) ?_
  refine RW.one fokW (r_lenX trivial rfl lenm (r_end ?_))
  refine RW.au fokW 2 [] ⟨[(4, .d (.bool (decide ((l.length : Int) < (m.length : Int)))))], [], 0, Fr.emp, [], 0⟩ (by kernel_rfl) ?_
  refine RW.nil ?_
  refine hQ_4 _ ?_
  obtain rfl := Option.some.inj h
  exact AW.ret (hR_0 _ (retX (.cons (.tmp rfl) .nil) (.refl _) rfl (by kernel_rfl) (by kernel_rfl)))
 ·have h := ifF hb_3 h
  refine AW.skip ?_
  refine hK_1 _ ?_
  refine AW.srwK (fun Q_5 hQ_5 => ?_)
  refine RW.au fokW 2 [] ⟨[(15, .d (.sl 1 (List.map e3 l))), (16, .d (.sl 1 (List.map e3 m)))], [], 0, Fr.emp, [], 0⟩ (by kernel_rfl) ?_
  obtain ⟨r0_1, hx_6, h⟩ := bsome h
  refine RW.one fokW (r_call trivial rfl (k93 l m _ hx_6) rfl rfl (r_end ?_))
  refine RW.au fokW 1 [] ⟨[(4, .d (.bool r0_1))], [], 0, Fr.emp, [], 0⟩ (by kernel_rfl) ?_
  refine RW.nil ?_
  refine hQ_5 _ ?_
  obtain rfl := Option.some.inj h
  exact AW.ret (hR_0 _ (retX (.cons (.tmp rfl) .nil) (.refl _) rfl (by kernel_rfl) (by kernel_rfl)))
def g86_2 (set_ : Int) : Int → StandTrial → (List StandTrial) → Option (List StandTrial) := fun i p l => (g92 set_ i).bind fun r0 => bif (!r0) then ((appL 24 l [p]).bind fun l1 => some l1) else (some l)
def g86 (b : StandBook) (set_ : Int) : Option StandBook := (eachS (g86_2 set_) b.Trials 0 ([] : List StandTrial)).bind fun l => some (StandBook.mk b.Kind b.Front b.Back b.Radius b.Parts b.Along b.High b.Lean_ b.Limit l)
theorem k86 (b : StandBook) (set_ : Int) (r : StandBook) (h : g86 b set_ = some r) : SCall Tryd.prog Gs 86 [.agg (cv25 b), .d (I set_)] [] 0 Fr.emp (.agg (cv25 r)) [] 0 Fr.emp := by
 unfold g86 at h
 refine SCall.mkK Tryd.func86 c86 rfl rfl (by kernel_rfl) (fun Q_0 hR_0 hN_0 => ?_)
 refine AW.sa fokW [] ⟨[(1, .d (I set_)), (2, .ptr 0 0), (4, .ptr 1 0)], [(1, .var 25 [.d (I 0), .d (I 0), .d (I 0), .d (I 0), .d (.nilSl), .d (I 0), .d (I 0), .d (I 0), .d (I 0), .d (.nilSl)]), (0, .var 25 (cv25 b))], 2, Fr.emp, [], 0⟩ (by kernel_rfl) ?_
 refine AW.sa fokW [] ⟨[(1, .d (I set_)), (2, .ptr 0 0), (4, .ptr 1 0), (5, .ptr 2 0)], [(2, .var 25 (cv25 b)), (1, .var 25 [.d (I 0), .d (I 0), .d (I 0), .d (I 0), .d (.nilSl), .d (I 0), .d (I 0), .d (I 0), .d (I 0), .d (.nilSl)]), (0, .var 25 (cv25 b))], 3, Fr.emp, [], 0⟩ (by kernel_rfl) ?_
 refine AW.sa fokW [] ⟨[(1, .d (I set_)), (2, .ptr 0 0), (4, .ptr 1 0), (5, .ptr 2 0)], [(2, .var 25 [.d (I b.Kind), .d (I b.Front), .d (I b.Back), .d (I b.Radius), .d (.sl 4 (List.map e70 b.Parts)), .d (I b.Along), .d (I b.High), .d (I b.Lean_), .d (I b.Limit), .d (.nilSl)]), (1, .var 25 [.d (I 0), .d (I 0), .d (I 0), .d (I 0), .d (.nilSl), .d (I 0), .d (I 0), .d (I 0), .d (I 0), .d (.nilSl)]), (0, .var 25 (cv25 b))], 3, Fr.emp, [], 0⟩ (by kernel_rfl) ?_
 refine AW.seqK (fun K_1 hK_1 => ?_)
 refine AW.sa fokW [] ⟨[(1, .d (I set_)), (2, .ptr 0 0), (4, .ptr 1 0), (5, .ptr 2 0), (6, .d (I 0))], [(2, .var 25 [.d (I b.Kind), .d (I b.Front), .d (I b.Back), .d (I b.Radius), .d (.sl 4 (List.map e70 b.Parts)), .d (I b.Along), .d (I b.High), .d (I b.Lean_), .d (I b.Limit), .d (.nilSl)]), (1, .var 25 [.d (I 0), .d (I 0), .d (I 0), .d (I 0), .d (.nilSl), .d (I 0), .d (I 0), .d (I 0), .d (I 0), .d (.nilSl)]), (0, .var 25 (cv25 b))], 3, Fr.emp, [], 0⟩ (by kernel_rfl) ?_
 refine AW.block ?_
 refine AW.slh (r := 0) (off := 9) rfl rfl (fun hN_2 => ?_)
 rw [List.length_map] at hN_2
 obtain ⟨out_2, hx_2, h⟩ := bsome h
 refine AW.evSK (fun (i : Int) (l : List StandTrial) => ⟨[(1, .d (I set_)), (2, .ptr 0 0), (4, .ptr 1 0), (5, .ptr 2 0), (6, .d (I i))], [(2, .var 25 [.d (I b.Kind), .d (I b.Front), .d (I b.Back), .d (I b.Radius), .d (.sl 4 (List.map e70 b.Parts)), .d (I b.Along), .d (I b.High), .d (I b.Lean_), .d (I b.Limit), .own 3 (List.map e65 l).length]), (3, .row 65 3 (List.map e65 l)), (1, .var 25 [.d (I 0), .d (I 0), .d (I 0), .d (I 0), .d (.nilSl), .d (I 0), .d (I 0), .d (I 0), .d (I 0), .d (.nilSl)]), (0, .var 25 (cv25 b))], 4, Fr.emp, [], 0⟩) (g86_2 set_) hx_2 (Can.trans (Can.thawH 2 9 25 65 3 rfl rfl rfl) (Can.kp (by kernel_rfl))) (fun i p l hi_2 hl_2 hp_2 c_2 h K_2 hK_2 => ?_) (fun i l hi_2 hl_2 hout => ?_)
 ·unfold g86_2 at h
  refine AW.seqK (fun K_3 hK_3 => ?_)
  refine AW.srwK (fun Q_4 hQ_4 => ?_)
  refine RW.au fokW 3 [] ⟨[(1, .d (I set_)), (2, .ptr 0 0), (4, .ptr 1 0), (5, .ptr 2 0), (6, .d (I i)), (9, .d (I i)), (11, .d (.sl 3 (List.map e65 b.Trials)))], [(2, .var 25 [.d (I b.Kind), .d (I b.Front), .d (I b.Back), .d (I b.Radius), .d (.sl 4 (List.map e70 b.Parts)), .d (I b.Along), .d (I b.High), .d (I b.Lean_), .d (I b.Limit), .own 3 (List.map e65 l).length]), (3, .row 65 3 (List.map e65 l)), (1, .var 25 [.d (I 0), .d (I 0), .d (I 0), .d (I 0), .d (.nilSl), .d (I 0), .d (I 0), .d (I 0), .d (I 0), .d (.nilSl)]), (0, .var 25 (cv25 b))], 4, Fr.emp, [], 0⟩ (by kernel_rfl) ?_
  refine RW.one fokW (r_lenX trivial rfl lenm (r_end ?_))
  refine RW.au fokW 1 [] ⟨[(1, .d (I set_)), (2, .ptr 0 0), (4, .ptr 1 0), (5, .ptr 2 0), (6, .d (I i)), (13, .d (.bool (decide (i < (b.Trials.length : Int)))))], [(2, .var 25 [.d (I b.Kind), .d (I b.Front), .d (I b.Back), .d (I b.Radius), .d (.sl 4 (List.map e70 b.Parts)), .d (I b.Along), .d (I b.High), .d (I b.Lean_), .d (I b.Limit), .own 3 (List.map e65 l).length]), (3, .row 65 3 (List.map e65 l)), (1, .var 25 [.d (I 0), .d (I 0), .d (I 0), .d (I 0), .d (.nilSl), .d (I 0), .d (I 0), .d (I 0), .d (I 0), .d (.nilSl)]), (0, .var 25 (cv25 b))], 4, Fr.emp, [], 0⟩ (by kernel_rfl) ?_
  refine RW.nil ?_
  refine hQ_4 _ ?_
  refine AW.cond rfl (fun hb_5 => ?_) (fun hb_5 => False.elim (by have := of_decide_eq_false hb_5; omega))
  refine AW.skip ?_
  refine hK_3 _ ?_
  refine AW.seqK (fun K_6 hK_6 => ?_)
  refine AW.block ?_
  refine AW.srwK (fun Q_7 hQ_7 => ?_)
  refine RW.au fokW 2 [] ⟨[(1, .d (I set_)), (2, .ptr 0 0), (4, .ptr 1 0), (5, .ptr 2 0), (6, .d (I i)), (16, .d (I set_)), (17, .d (I i))], [(2, .var 25 [.d (I b.Kind), .d (I b.Front), .d (I b.Back), .d (I b.Radius), .d (.sl 4 (List.map e70 b.Parts)), .d (I b.Along), .d (I b.High), .d (I b.Lean_), .d (I b.Limit), .own 3 (List.map e65 l).length]), (3, .row 65 3 (List.map e65 l)), (1, .var 25 [.d (I 0), .d (I 0), .d (I 0), .d (I 0), .d (.nilSl), .d (I 0), .d (I 0), .d (I 0), .d (I 0), .d (.nilSl)]), (0, .var 25 (cv25 b))], 4, Fr.emp, [], 0⟩ (by kernel_rfl) ?_
  obtain ⟨r0, hx_8, h⟩ := bsome h
  refine RW.one fokW (r_call trivial rfl (k92 set_ i _ hx_8) rfl rfl (r_end ?_))
  refine RW.au fokW 1 [] ⟨[(1, .d (I set_)), (2, .ptr 0 0), (4, .ptr 1 0), (5, .ptr 2 0), (6, .d (I i)), (19, .d (.bool (!r0)))], [(2, .var 25 [.d (I b.Kind), .d (I b.Front), .d (I b.Back), .d (I b.Radius), .d (.sl 4 (List.map e70 b.Parts)), .d (I b.Along), .d (I b.High), .d (I b.Lean_), .d (I b.Limit), .own 3 (List.map e65 l).length]), (3, .row 65 3 (List.map e65 l)), (1, .var 25 [.d (I 0), .d (I 0), .d (I 0), .d (I 0), .d (.nilSl), .d (I 0), .d (I 0), .d (I 0), .d (I 0), .d (.nilSl)]), (0, .var 25 (cv25 b))], 4, Fr.emp, [], 0⟩ (by kernel_rfl) ?_
  refine RW.nil ?_
  refine hQ_7 _ ?_
  refine AW.cond rfl (fun hb_9 => ?_) (fun hb_9 => ?_)
  ·have h := ifT hb_9 h
   refine AW.drw fokW ?_
   refine RunC.auX 5 ⟨[(1, .d (I set_)), (2, .ptr 0 0), (4, .ptr 1 0), (5, .ptr 2 0), (6, .d (I i)), (21, .own 3 (List.map e65 l).length), (23, .d (.sl 3 (List.map e65 b.Trials))), (24, .d (I i))], [(2, .var 25 [.d (I b.Kind), .d (I b.Front), .d (I b.Back), .d (I b.Radius), .d (.sl 4 (List.map e70 b.Parts)), .d (I b.Along), .d (I b.High), .d (I b.Lean_), .d (I b.Limit), .own 3 (List.map e65 l).length]), (3, .row 65 3 (List.map e65 l)), (1, .var 25 [.d (I 0), .d (I 0), .d (I 0), .d (I 0), .d (.nilSl), .d (I 0), .d (I 0), .d (I 0), .d (I 0), .d (.nilSl)]), (0, .var 25 (cv25 b))], 4, Fr.emp, [], 0⟩ (by kernel_rfl) ?_
   refine r_iaD trivial rfl rfl hi_2 (row := e65 p) (mapget hp_2) ?_
   refine RunC.auX 2 ⟨[(1, .d (I set_)), (2, .ptr 0 0), (4, .ptr 1 0), (5, .ptr 2 0), (6, .d (I i)), (21, .own 3 (List.map e65 l).length), (27, .own 4 (List.map e65 [p]).length)], [(4, .row 65 3 (List.map e65 [p])), (2, .var 25 [.d (I b.Kind), .d (I b.Front), .d (I b.Back), .d (I b.Radius), .d (.sl 4 (List.map e70 b.Parts)), .d (I b.Along), .d (I b.High), .d (I b.Lean_), .d (I b.Limit), .own 3 (List.map e65 l).length]), (3, .row 65 3 (List.map e65 l)), (1, .var 25 [.d (I 0), .d (I 0), .d (I 0), .d (I 0), .d (.nilSl), .d (I 0), .d (I 0), .d (I 0), .d (I 0), .d (.nilSl)]), (0, .var 25 (cv25 b))], 5, Fr.emp, [], 0⟩ (by kernel_rfl) ?_
   obtain ⟨l1, hv_11, h⟩ := bsome h
   refine r_apO trivial rfl rfl rfl rfl rfl rfl (apz hv_11 e65) (apr hv_11 e65) ?_
   refine RunC.auX 2 ⟨[(1, .d (I set_)), (2, .ptr 0 0), (4, .ptr 1 0), (5, .ptr 2 0), (6, .d (I i))], [(2, .var 25 [.d (I b.Kind), .d (I b.Front), .d (I b.Back), .d (I b.Radius), .d (.sl 4 (List.map e70 b.Parts)), .d (I b.Along), .d (I b.High), .d (I b.Lean_), .d (I b.Limit), .own 3 (List.map e65 l1).length]), (3, .row 65 3 (List.map e65 l1)), (4, .row 65 3 (List.map e65 [p])), (1, .var 25 [.d (I 0), .d (I 0), .d (I 0), .d (I 0), .d (.nilSl), .d (I 0), .d (I 0), .d (I 0), .d (I 0), .d (.nilSl)]), (0, .var 25 (cv25 b))], 5, Fr.emp, [], 0⟩ (by kernel_rfl) ?_
   refine RunC.fin ⟨[(1, .d (I set_)), (2, .ptr 0 0), (4, .ptr 1 0), (5, .ptr 2 0), (6, .d (I i))], [(2, .var 25 [.d (I b.Kind), .d (I b.Front), .d (I b.Back), .d (I b.Radius), .d (.sl 4 (List.map e70 b.Parts)), .d (I b.Along), .d (I b.High), .d (I b.Lean_), .d (I b.Limit), .own 3 (List.map e65 l1).length]), (3, .row 65 3 (List.map e65 l1)), (1, .var 25 [.d (I 0), .d (I 0), .d (I 0), .d (I 0), .d (.nilSl), .d (I 0), .d (I 0), .d (I 0), .d (I 0), .d (.nilSl)]), (0, .var 25 (cv25 b))], 5, Fr.emp, [], 0⟩ (by kernel_rfl) (by kernel_rfl) ?_
   refine hK_6 _ ?_
   refine AW.ra fokW [] ⟨[(1, .d (I set_)), (2, .ptr 0 0), (4, .ptr 1 0), (5, .ptr 2 0), (6, .d (I (wr (i + 1))))], [(2, .var 25 [.d (I b.Kind), .d (I b.Front), .d (I b.Back), .d (I b.Radius), .d (.sl 4 (List.map e70 b.Parts)), .d (I b.Along), .d (I b.High), .d (I b.Lean_), .d (I b.Limit), .own 3 (List.map e65 l1).length]), (3, .row 65 3 (List.map e65 l1)), (1, .var 25 [.d (I 0), .d (I 0), .d (I 0), .d (I 0), .d (.nilSl), .d (I 0), .d (I 0), .d (I 0), .d (I 0), .d (.nilSl)]), (0, .var 25 (cv25 b))], 5, Fr.emp, [], 0⟩ (by kernel_rfl) ?_
   obtain rfl := Option.some.inj h
   have ew : wr (i + 1) = i + 1 := inext (N := (b.Trials.length : Int)) (by omega) (by omega) (by omega)
   rw [ew]
   exact hK_2 _ (Can.kp (by kernel_rfl))
  ·have h := ifF hb_9 h
   refine AW.skip ?_
   refine hK_6 _ ?_
   refine AW.ra fokW [] ⟨[(1, .d (I set_)), (2, .ptr 0 0), (4, .ptr 1 0), (5, .ptr 2 0), (6, .d (I (wr (i + 1))))], [(2, .var 25 [.d (I b.Kind), .d (I b.Front), .d (I b.Back), .d (I b.Radius), .d (.sl 4 (List.map e70 b.Parts)), .d (I b.Along), .d (I b.High), .d (I b.Lean_), .d (I b.Limit), .own 3 (List.map e65 l).length]), (3, .row 65 3 (List.map e65 l)), (1, .var 25 [.d (I 0), .d (I 0), .d (I 0), .d (I 0), .d (.nilSl), .d (I 0), .d (I 0), .d (I 0), .d (I 0), .d (.nilSl)]), (0, .var 25 (cv25 b))], 4, Fr.emp, [], 0⟩ (by kernel_rfl) ?_
   obtain rfl := Option.some.inj h
   have ew : wr (i + 1) = i + 1 := inext (N := (b.Trials.length : Int)) (by omega) (by omega) (by omega)
   rw [ew]
   exact hK_2 _ (Can.kp (by kernel_rfl))
 ·subst hout
  refine AW.seqK (fun K_12 hK_12 => ?_)
  refine AW.srwK (fun Q_13 hQ_13 => ?_)
  refine RW.au fokW 3 [] ⟨[(1, .d (I set_)), (2, .ptr 0 0), (4, .ptr 1 0), (5, .ptr 2 0), (6, .d (I i)), (9, .d (I i)), (11, .d (.sl 3 (List.map e65 b.Trials)))], [(2, .var 25 [.d (I b.Kind), .d (I b.Front), .d (I b.Back), .d (I b.Radius), .d (.sl 4 (List.map e70 b.Parts)), .d (I b.Along), .d (I b.High), .d (I b.Lean_), .d (I b.Limit), .own 3 (List.map e65 l).length]), (3, .row 65 3 (List.map e65 l)), (1, .var 25 [.d (I 0), .d (I 0), .d (I 0), .d (I 0), .d (.nilSl), .d (I 0), .d (I 0), .d (I 0), .d (I 0), .d (.nilSl)]), (0, .var 25 (cv25 b))], 4, Fr.emp, [], 0⟩ (by kernel_rfl) ?_
  refine RW.one fokW (r_lenX trivial rfl lenm (r_end ?_))
  refine RW.au fokW 1 [] ⟨[(1, .d (I set_)), (2, .ptr 0 0), (4, .ptr 1 0), (5, .ptr 2 0), (6, .d (I i)), (13, .d (.bool (decide (i < (b.Trials.length : Int)))))], [(2, .var 25 [.d (I b.Kind), .d (I b.Front), .d (I b.Back), .d (I b.Radius), .d (.sl 4 (List.map e70 b.Parts)), .d (I b.Along), .d (I b.High), .d (I b.Lean_), .d (I b.Limit), .own 3 (List.map e65 l).length]), (3, .row 65 3 (List.map e65 l)), (1, .var 25 [.d (I 0), .d (I 0), .d (I 0), .d (I 0), .d (.nilSl), .d (I 0), .d (I 0), .d (I 0), .d (I 0), .d (.nilSl)]), (0, .var 25 (cv25 b))], 4, Fr.emp, [], 0⟩ (by kernel_rfl) ?_
  refine RW.nil ?_
  refine hQ_13 _ ?_
  refine AW.cond rfl (fun hb_14 => False.elim (by have := of_decide_eq_true hb_14; omega)) (fun hb_14 => ?_)
  refine AW.exit ?_
  refine hK_1 _ ?_
  refine AW.sa fokW [] ⟨[(4, .ptr 1 0)], [(1, .var 25 [.d (I b.Kind), .d (I b.Front), .d (I b.Back), .d (I b.Radius), .d (.sl 4 (List.map e70 b.Parts)), .d (I b.Along), .d (I b.High), .d (I b.Lean_), .d (I b.Limit), .own 3 (List.map e65 l).length]), (3, .row 65 3 (List.map e65 l))], 4, Fr.emp, [], 0⟩ (by kernel_rfl) ?_
  obtain rfl := Option.some.inj h
  exact AW.ret (hR_0 _ (retX (.cons (.agg rfl rfl (Nat.le_of_ble_eq_true rfl)) .nil) (Frz.agg_of ⟨.refl _, .refl _, .refl _, .refl _, .refl _, .refl _, .refl _, .refl _, .refl _, (.own rfl rfl), trivial⟩) rfl (by kernel_rfl) (by kernel_rfl)))
def g36_10 (b : StandBook) : Int → (List Int) → Option (List Int) := fun set_ best => (must (decide (0 ≤ (b.Trials.length : Int)))).bind fun _ => (g53 set_ (b.Trials.length : Int)).bind fun r0_1_1 => (g54 r0_1_1 best).bind fun r0_2 => (bif r0_2 then ((g86 b set_).bind fun r0_1_2 => (g62 r0_1_2).bind fun r0 => some (decide (0 < (r0.length : Int)))) else (some false)).bind fun v => bif v then (some r0_1_1) else (some best)
def g36 (b : StandBook) : Option ((List Int) × Int) := (g19 b).bind fun r0_10 => bif (decide (r0_10 ≠ 0)) then (some ([], r0_10)) else ((must (decide (0 ≤ (b.Trials.length : Int)))).bind fun _ => (g53 (wr ((shl64 1 (b.Trials.length : Int)) - 1)) (b.Trials.length : Int)).bind fun r0_1 => (must (decide ((shl64 1 (b.Trials.length : Int)) ≤ 9223372036854775807))).bind fun _ => (forS (g36_10 b) ((((shl64 1 (b.Trials.length : Int)) : Int) - 0).toNat) 0 r0_1).bind fun best => (must (decide (0 ≤ (b.Trials.length : Int)))).bind fun _ => some (best, 0))
theorem k36 (b : StandBook) (r : (List Int) × Int) (h : g36 b = some r) : SCall Tryd.prog Gs 36 [.agg (cv25 b)] [] 0 Fr.emp (match r with | (r0_4, r1_1) => .tup [.d (.sl 1 (List.map e3 r0_4)), .d (I r1_1)]) [] 0 Fr.emp := by
 unfold g36 at h
 refine SCall.mkK Tryd.func36 c36 rfl rfl (by kernel_rfl) (fun Q_0 hR_0 hN_0 => ?_)
 refine AW.sa fokW [] ⟨[(1, .ptr 0 0)], [(0, .var 25 (cv25 b))], 1, Fr.emp, [], 0⟩ (by kernel_rfl) ?_
 refine AW.seqK (fun K_1 hK_1 => ?_)
 refine AW.srwK (fun Q_2 hQ_2 => ?_)
 refine RW.au fokW 1 [] ⟨[(1, .ptr 0 0), (9, .agg (cv25 b))], [(0, .var 25 (cv25 b))], 1, Fr.emp, [], 0⟩ (by kernel_rfl) ?_
 obtain ⟨r0_10, hx_3, h⟩ := bsome h
 refine RW.one fokW (r_call trivial rfl (k19 b _ hx_3) rfl rfl (r_end ?_))
 refine RW.au fokW 1 [] ⟨[(1, .ptr 0 0), (4, .d (I r0_10))], [(0, .var 25 (cv25 b))], 1, Fr.emp, [], 0⟩ (by kernel_rfl) ?_
 refine RW.nil ?_
 refine hQ_2 _ ?_
 refine AW.sa fokW [] ⟨[(1, .ptr 0 0), (4, .d (I r0_10)), (12, .d (.bool (decide (r0_10 ≠ 0))))], [(0, .var 25 (cv25 b))], 1, Fr.emp, [], 0⟩ (by kernel_rfl) ?_
 refine AW.cond rfl (fun hb_4 => ?_) (fun hb_4 => ?_)
 ·have h := ifT hb_4 h
  refine AW.sa fokW [] ⟨[(2, .d (.nilSl)), (3, .d (I r0_10))], [], 1, Fr.emp, [], 0⟩ (by kernel_rfl) ?_
  obtain rfl := Option.some.inj h
  exact AW.ret (hR_0 _ (retX (.cons (.tmp rfl) (.cons (.tmp rfl) .nil)) (Frz.tup_of ⟨.nil 1, .refl _, trivial⟩) rfl (by kernel_rfl) (by kernel_rfl)))
 ·have h := ifF hb_4 h
  refine AW.skip ?_
  refine hK_1 _ ?_
  refine AW.srwK (fun Q_5 hQ_5 => ?_)
  refine RW.au fokW 2 [] ⟨[(1, .ptr 0 0), (15, .d (.sl 3 (List.map e65 b.Trials)))], [(0, .var 25 (cv25 b))], 1, Fr.emp, [], 0⟩ (by kernel_rfl) ?_
  refine RW.one fokW (r_lenX trivial rfl lenm (r_end ?_))
  refine RW.au fokW 1 [] ⟨[(1, .ptr 0 0), (5, .d (I (b.Trials.length : Int)))], [(0, .var 25 (cv25 b))], 1, Fr.emp, [], 0⟩ (by kernel_rfl) ?_
  refine RW.nil ?_
  refine hQ_5 _ ?_
  refine AW.srwK (fun Q_6 hQ_6 => ?_)
  refine RW.au fokW 1 [] ⟨[(1, .ptr 0 0), (5, .d (I (b.Trials.length : Int))), (17, .d (I (b.Trials.length : Int)))], [(0, .var 25 (cv25 b))], 1, Fr.emp, [], 0⟩ (by kernel_rfl) ?_
  obtain ⟨_, hv_7, h⟩ := bsome h
  refine RW.one fokW (r_sh trivial rfl rfl (shl64_ok (of_decide_eq_true (must_ok hv_7))) (r_end ?_))
  refine RW.au fokW 2 [] ⟨[(1, .ptr 0 0), (5, .d (I (b.Trials.length : Int))), (19, .d (I (wr ((shl64 1 (b.Trials.length : Int)) - 1)))), (20, .d (I (b.Trials.length : Int)))], [(0, .var 25 (cv25 b))], 1, Fr.emp, [], 0⟩ (by kernel_rfl) ?_
  obtain ⟨r0_1, hx_8, h⟩ := bsome h
  refine RW.one fokW (r_call trivial rfl (k53 (wr ((shl64 1 (b.Trials.length : Int)) - 1)) (b.Trials.length : Int) _ hx_8) rfl rfl (r_end ?_))
  refine RW.au fokW 1 [] ⟨[(1, .ptr 0 0), (5, .d (I (b.Trials.length : Int))), (6, .d (.sl 1 (List.map e3 r0_1)))], [(0, .var 25 (cv25 b))], 1, Fr.emp, [], 0⟩ (by kernel_rfl) ?_
  refine RW.nil ?_
  refine hQ_6 _ ?_
  refine AW.seqK (fun K_9 hK_9 => ?_)
  refine AW.sa fokW [] ⟨[(1, .ptr 0 0), (5, .d (I (b.Trials.length : Int))), (6, .d (.sl 1 (List.map e3 r0_1))), (7, .d (I 0))], [(0, .var 25 (cv25 b))], 1, Fr.emp, [], 0⟩ (by kernel_rfl) ?_
  refine AW.block ?_
  obtain ⟨_, hN_10, h⟩ := bsome h
  have hN_10 := of_decide_eq_true (must_ok hN_10)
  obtain ⟨out_10, hx_10, h⟩ := bsome h
  refine AW.lpSK (fun (set_ : Int) (best : List Int) => ⟨[(1, .ptr 0 0), (5, .d (I (b.Trials.length : Int))), (6, .d (.sl 1 (List.map e3 best))), (7, .d (I set_))], [(0, .var 25 (cv25 b))], 1, Fr.emp, [], 0⟩) (g36_10 b) ((shl64 1 (b.Trials.length : Int))) hx_10 (Can.kp (by kernel_rfl)) (fun set_ best hi_10 hl_10 c_10 h K_10 hK_10 => ?_) (fun set_ best hi_10 hl_10 hout => ?_)
  ·unfold g36_10 at h
   refine AW.seqK (fun K_11 hK_11 => ?_)
   refine AW.srwK (fun Q_12 hQ_12 => ?_)
   refine RW.au fokW 2 [] ⟨[(1, .ptr 0 0), (5, .d (I (b.Trials.length : Int))), (6, .d (.sl 1 (List.map e3 best))), (7, .d (I set_)), (22, .d (I set_)), (23, .d (I (b.Trials.length : Int)))], [(0, .var 25 (cv25 b))], 1, Fr.emp, [], 0⟩ (by kernel_rfl) ?_
   obtain ⟨_, hv_13, h⟩ := bsome h
   refine RW.one fokW (r_sh trivial rfl rfl (shl64_ok (of_decide_eq_true (must_ok hv_13))) (r_end ?_))
   refine RW.au fokW 1 [] ⟨[(1, .ptr 0 0), (5, .d (I (b.Trials.length : Int))), (6, .d (.sl 1 (List.map e3 best))), (7, .d (I set_)), (25, .d (.bool (decide (set_ < (shl64 1 (b.Trials.length : Int))))))], [(0, .var 25 (cv25 b))], 1, Fr.emp, [], 0⟩ (by kernel_rfl) ?_
   refine RW.nil ?_
   refine hQ_12 _ ?_
   refine AW.cond rfl (fun hb_14 => ?_) (fun hb_14 => False.elim (by have := of_decide_eq_false hb_14; omega))
   refine AW.skip ?_
   refine hK_11 _ ?_
   refine AW.seqK (fun K_15 hK_15 => ?_)
   refine AW.block ?_
   refine AW.srwK (fun Q_16 hQ_16 => ?_)
   refine RW.au fokW 2 [] ⟨[(1, .ptr 0 0), (5, .d (I (b.Trials.length : Int))), (6, .d (.sl 1 (List.map e3 best))), (7, .d (I set_)), (28, .d (I set_)), (29, .d (I (b.Trials.length : Int)))], [(0, .var 25 (cv25 b))], 1, Fr.emp, [], 0⟩ (by kernel_rfl) ?_
   obtain ⟨r0_1_1, hx_17, h⟩ := bsome h
   refine RW.one fokW (r_call trivial rfl (k53 set_ (b.Trials.length : Int) _ hx_17) rfl rfl (r_end ?_))
   refine RW.au fokW 1 [] ⟨[(1, .ptr 0 0), (5, .d (I (b.Trials.length : Int))), (6, .d (.sl 1 (List.map e3 best))), (7, .d (I set_)), (8, .d (.sl 1 (List.map e3 r0_1_1)))], [(0, .var 25 (cv25 b))], 1, Fr.emp, [], 0⟩ (by kernel_rfl) ?_
   refine RW.nil ?_
   refine hQ_16 _ ?_
   refine AW.srwK (fun Q_18 hQ_18 => ?_)
   refine RW.au fokW 2 [] ⟨[(1, .ptr 0 0), (5, .d (I (b.Trials.length : Int))), (6, .d (.sl 1 (List.map e3 best))), (7, .d (I set_)), (8, .d (.sl 1 (List.map e3 r0_1_1))), (31, .d (.sl 1 (List.map e3 r0_1_1))), (32, .d (.sl 1 (List.map e3 best)))], [(0, .var 25 (cv25 b))], 1, Fr.emp, [], 0⟩ (by kernel_rfl) ?_
   obtain ⟨r0_2, hx_19, h⟩ := bsome h
   refine RW.one fokW (r_call trivial rfl (k54 r0_1_1 best _ hx_19) rfl rfl (r_end ?_))
   refine RW.au fokW 1 [] ⟨[(1, .ptr 0 0), (5, .d (I (b.Trials.length : Int))), (6, .d (.sl 1 (List.map e3 best))), (7, .d (I set_)), (8, .d (.sl 1 (List.map e3 r0_1_1))), (34, .d (.bool r0_2))], [(0, .var 25 (cv25 b))], 1, Fr.emp, [], 0⟩ (by kernel_rfl) ?_
   obtain ⟨v, hx_20, h⟩ := bsome h
   refine RW.cut fokW 7 (⟨[(1, .ptr 0 0), (5, .d (I (b.Trials.length : Int))), (6, .d (.sl 1 (List.map e3 best))), (7, .d (I set_)), (8, .d (.sl 1 (List.map e3 r0_1_1))), (41, .d (.bool v))], [(0, .var 25 (cv25 b))], 1, Fr.emp, [], 0⟩) ?_ ?_
   ·refine r_split 34 rfl (fun hb_23 => ?_) (fun hb_23 => ?_)
    ·have h := ifT hb_23 hx_20
     refine RunC.auX 2 ⟨[(1, .ptr 0 0), (5, .d (I (b.Trials.length : Int))), (6, .d (.sl 1 (List.map e3 best))), (7, .d (I set_)), (8, .d (.sl 1 (List.map e3 r0_1_1))), (34, .d (.bool true)), (35, .agg (cv25 b)), (36, .d (I set_))], [(0, .var 25 (cv25 b))], 1, Fr.emp, [], 0⟩ (by kernel_rfl) ?_
     obtain ⟨r0_1_2, hx_21, h⟩ := bsome h
     refine r_call rfl rfl (k86 b set_ _ hx_21) rfl rfl ?_
     obtain ⟨r0, hx_22, h⟩ := bsome h
     refine r_call rfl rfl (k62 r0_1_2 _ hx_22) rfl rfl ?_
     refine r_lenX rfl rfl lenm ?_
     refine RunC.auX 2 ⟨[(1, .ptr 0 0), (5, .d (I (b.Trials.length : Int))), (6, .d (.sl 1 (List.map e3 best))), (7, .d (I set_)), (8, .d (.sl 1 (List.map e3 r0_1_1))), (35, .agg (cv25 b)), (36, .d (I set_)), (37, .agg (cv25 r0_1_2)), (38, .d (.sl 1 (List.map e47 r0))), (39, .d (I (r0.length : Int))), (40, .d (.bool (decide (0 < (r0.length : Int))))), (41, .d (.bool (decide (0 < (r0.length : Int)))))], [(0, .var 25 (cv25 b))], 1, Fr.emp, [], 0⟩ (by kernel_rfl) ?_
     obtain rfl := Option.some.inj h
     refine RunC.finJ (Can.kp (by kernel_rfl))
    ·have h := ifF hb_23 hx_20
     refine RunC.auX 7 ⟨[(1, .ptr 0 0), (5, .d (I (b.Trials.length : Int))), (6, .d (.sl 1 (List.map e3 best))), (7, .d (I set_)), (8, .d (.sl 1 (List.map e3 r0_1_1))), (35, .undef), (36, .undef), (37, .undef), (38, .undef), (39, .undef), (40, .undef), (41, .d (.bool false))], [(0, .var 25 (cv25 b))], 1, Fr.emp, [], 0⟩ (by kernel_rfl) ?_
     obtain rfl := Option.some.inj h
     refine RunC.finJ (Can.kp (by kernel_rfl))
   ·refine RW.nil ?_
    refine hQ_18 _ ?_
    refine AW.cond rfl (fun hb_24 => ?_) (fun hb_24 => ?_)
    ·have h := ifT hb_24 h
     refine AW.ra fokW [] ⟨[(1, .ptr 0 0), (5, .d (I (b.Trials.length : Int))), (6, .d (.sl 1 (List.map e3 r0_1_1))), (7, .d (I set_))], [(0, .var 25 (cv25 b))], 1, Fr.emp, [], 0⟩ (by kernel_rfl) ?_
     refine hK_15 _ ?_
     refine AW.ra fokW [] ⟨[(1, .ptr 0 0), (5, .d (I (b.Trials.length : Int))), (6, .d (.sl 1 (List.map e3 r0_1_1))), (7, .d (I (wr (set_ + 1))))], [(0, .var 25 (cv25 b))], 1, Fr.emp, [], 0⟩ (by kernel_rfl) ?_
     obtain rfl := Option.some.inj h
     have ew : wr (set_ + 1) = set_ + 1 := inext (N := (shl64 1 (b.Trials.length : Int))) (by omega) (by omega) (by omega)
     rw [ew]
     exact hK_10 _ (Can.kp (by kernel_rfl))
    ·have h := ifF hb_24 h
     refine AW.skip ?_
     refine hK_15 _ ?_
     refine AW.ra fokW [] ⟨[(1, .ptr 0 0), (5, .d (I (b.Trials.length : Int))), (6, .d (.sl 1 (List.map e3 best))), (7, .d (I (wr (set_ + 1))))], [(0, .var 25 (cv25 b))], 1, Fr.emp, [], 0⟩ (by kernel_rfl) ?_
     obtain rfl := Option.some.inj h
     have ew : wr (set_ + 1) = set_ + 1 := inext (N := (shl64 1 (b.Trials.length : Int))) (by omega) (by omega) (by omega)
     rw [ew]
     exact hK_10 _ (Can.kp (by kernel_rfl))
  ·subst hout
   refine AW.seqK (fun K_25 hK_25 => ?_)
   refine AW.srwK (fun Q_26 hQ_26 => ?_)
   refine RW.au fokW 2 [] ⟨[(1, .ptr 0 0), (5, .d (I (b.Trials.length : Int))), (6, .d (.sl 1 (List.map e3 best))), (7, .d (I set_)), (22, .d (I set_)), (23, .d (I (b.Trials.length : Int)))], [(0, .var 25 (cv25 b))], 1, Fr.emp, [], 0⟩ (by kernel_rfl) ?_
   obtain ⟨_, hv_27, h⟩ := bsome h
   refine RW.one fokW (r_sh trivial rfl rfl (shl64_ok (of_decide_eq_true (must_ok hv_27))) (r_end ?_))
   refine RW.au fokW 1 [] ⟨[(1, .ptr 0 0), (5, .d (I (b.Trials.length : Int))), (6, .d (.sl 1 (List.map e3 best))), (7, .d (I set_)), (25, .d (.bool (decide (set_ < (shl64 1 (b.Trials.length : Int))))))], [(0, .var 25 (cv25 b))], 1, Fr.emp, [], 0⟩ (by kernel_rfl) ?_
   refine RW.nil ?_
   refine hQ_26 _ ?_
   refine AW.cond rfl (fun hb_28 => False.elim (by have := of_decide_eq_true hb_28; omega)) (fun hb_28 => ?_)
   refine AW.exit ?_
   refine hK_9 _ ?_
   refine AW.sa fokW [] ⟨[(2, .d (.sl 1 (List.map e3 best))), (3, .d (I 0))], [], 1, Fr.emp, [], 0⟩ (by kernel_rfl) ?_
   obtain rfl := Option.some.inj h
   exact AW.ret (hR_0 _ (retX (.cons (.tmp rfl) (.cons (.tmp rfl) .nil)) (.refl _) rfl (by kernel_rfl) (by kernel_rfl)))
def g5 (b : StandBook) (along : Int) : Option Bool := (g31 b along).bind fun (r0_5, r1_5) => (g32 b along).bind fun (r0_5_1, r1_2) => bif ((decide (r0_5 ≠ r0_5_1)) || (decide (r1_5 ≠ r1_2))) then (some false) else ((g33 b).bind fun (r0_4, r1_5_1) => (g34 b).bind fun (r0_3, r1_2_1) => bif ((decide (r0_4 ≠ r0_3)) || (decide (r1_5_1 ≠ r1_2_1))) then (some false) else ((g35 b).bind fun (r0_2, r1_2_2) => (g36 b).bind fun (r0_4_1, r1_1) => (g37 r0_2 r0_4_1).bind fun r0 => (bif (r0 && (decide (r1_2_2 = r1_1))) then ((g24).bind fun t2 => some t2) else (some false)).bind fun v => some v))
theorem k5 (b : StandBook) (along : Int) (r : Bool) (h : g5 b along = some r) : SCall Tryd.prog Gs 5 [.agg (cv25 b), .d (I along)] [] 0 Fr.emp (.d (.bool r)) [] 0 Fr.emp := by
 unfold g5 at h
 refine SCall.mkK Tryd.func5 c5 rfl rfl (by kernel_rfl) (fun Q_0 hR_0 hN_0 => ?_)
 refine AW.sa fokW [] ⟨[(1, .d (I along)), (2, .ptr 0 0)], [(0, .var 25 (cv25 b))], 1, Fr.emp, [], 0⟩ (by kernel_rfl) ?_
 refine AW.srwK (fun Q_1 hQ_1 => ?_)
 refine RW.au fokW 2 [] ⟨[(1, .d (I along)), (2, .ptr 0 0), (12, .agg (cv25 b)), (13, .d (I along))], [(0, .var 25 (cv25 b))], 1, Fr.emp, [], 0⟩ (by kernel_rfl) ?_
 obtain ⟨⟨r0_5, r1_5⟩, hx_2, h⟩ := bsome h
 refine RW.one fokW (r_call trivial rfl (k31 b along _ hx_2) rfl rfl (r_end ?_))
 refine RW.au fokW 5 [] ⟨[(1, .d (I along)), (2, .ptr 0 0), (5, .d (I r0_5)), (6, .d (I r1_5))], [(0, .var 25 (cv25 b))], 1, Fr.emp, [], 0⟩ (by kernel_rfl) ?_
 refine RW.nil ?_
 refine hQ_1 _ ?_
 refine AW.srwK (fun Q_3 hQ_3 => ?_)
 refine RW.au fokW 2 [] ⟨[(2, .ptr 0 0), (5, .d (I r0_5)), (6, .d (I r1_5)), (18, .agg (cv25 b)), (19, .d (I along))], [(0, .var 25 (cv25 b))], 1, Fr.emp, [], 0⟩ (by kernel_rfl) ?_
 obtain ⟨⟨r0_5_1, r1_2⟩, hx_4, h⟩ := bsome h
 refine RW.one fokW (r_call trivial rfl (k32 b along _ hx_4) rfl rfl (r_end ?_))
 refine RW.au fokW 5 [] ⟨[(2, .ptr 0 0), (5, .d (I r0_5)), (6, .d (I r1_5)), (7, .d (I r0_5_1)), (8, .d (I r1_2))], [(0, .var 25 (cv25 b))], 1, Fr.emp, [], 0⟩ (by kernel_rfl) ?_
 refine RW.nil ?_
 refine hQ_3 _ ?_
 refine AW.seqK (fun K_5 hK_5 => ?_)
 refine AW.sa fokW [26] ⟨[(2, .ptr 0 0), (30, .d (.bool ((decide (r0_5 ≠ r0_5_1)) || (decide (r1_5 ≠ r1_2)))))], [(0, .var 25 (cv25 b))], 1, Fr.emp, [], 0⟩ (by kernel_rfl) ?_
 refine AW.cond rfl (fun hb_6 => ?_) (fun hb_6 => ?_)
 ·have h := ifT hb_6 h
  refine AW.sa fokW [] ⟨[(4, .d (.bool false))], [], 1, Fr.emp, [], 0⟩ (by kernel_rfl) ?_
  obtain rfl := Option.some.inj h
  exact AW.ret (hR_0 _ (retX (.cons (.tmp rfl) .nil) (.refl _) rfl (by kernel_rfl) (by kernel_rfl)))
 ·have h := ifF hb_6 h
  refine AW.skip ?_
  refine hK_5 _ ?_
  refine AW.srwK (fun Q_7 hQ_7 => ?_)
  refine RW.au fokW 1 [] ⟨[(2, .ptr 0 0), (32, .agg (cv25 b))], [(0, .var 25 (cv25 b))], 1, Fr.emp, [], 0⟩ (by kernel_rfl) ?_
  obtain ⟨⟨r0_4, r1_5_1⟩, hx_8, h⟩ := bsome h
  refine RW.one fokW (r_call trivial rfl (k33 b _ hx_8) rfl rfl (r_end ?_))
  refine RW.au fokW 5 [] ⟨[(2, .ptr 0 0), (5, .d (I r0_4)), (6, .d (I r1_5_1))], [(0, .var 25 (cv25 b))], 1, Fr.emp, [], 0⟩ (by kernel_rfl) ?_
  refine RW.nil ?_
  refine hQ_7 _ ?_
  refine AW.srwK (fun Q_9 hQ_9 => ?_)
  refine RW.au fokW 1 [] ⟨[(2, .ptr 0 0), (5, .d (I r0_4)), (6, .d (I r1_5_1)), (37, .agg (cv25 b))], [(0, .var 25 (cv25 b))], 1, Fr.emp, [], 0⟩ (by kernel_rfl) ?_
  obtain ⟨⟨r0_3, r1_2_1⟩, hx_10, h⟩ := bsome h
  refine RW.one fokW (r_call trivial rfl (k34 b _ hx_10) rfl rfl (r_end ?_))
  refine RW.au fokW 5 [] ⟨[(2, .ptr 0 0), (5, .d (I r0_4)), (6, .d (I r1_5_1)), (7, .d (I r0_3)), (8, .d (I r1_2_1))], [(0, .var 25 (cv25 b))], 1, Fr.emp, [], 0⟩ (by kernel_rfl) ?_
  refine RW.nil ?_
  refine hQ_9 _ ?_
  refine AW.seqK (fun K_11 hK_11 => ?_)
  refine AW.sa fokW [44] ⟨[(2, .ptr 0 0), (48, .d (.bool ((decide (r0_4 ≠ r0_3)) || (decide (r1_5_1 ≠ r1_2_1)))))], [(0, .var 25 (cv25 b))], 1, Fr.emp, [], 0⟩ (by kernel_rfl) ?_
  refine AW.cond rfl (fun hb_12 => ?_) (fun hb_12 => ?_)
  ·have h := ifT hb_12 h
   refine AW.sa fokW [] ⟨[(4, .d (.bool false))], [], 1, Fr.emp, [], 0⟩ (by kernel_rfl) ?_
   obtain rfl := Option.some.inj h
   exact AW.ret (hR_0 _ (retX (.cons (.tmp rfl) .nil) (.refl _) rfl (by kernel_rfl) (by kernel_rfl)))
  ·have h := ifF hb_12 h
   refine AW.skip ?_
   refine hK_11 _ ?_
   refine AW.srwK (fun Q_13 hQ_13 => ?_)
   refine RW.au fokW 1 [] ⟨[(2, .ptr 0 0), (50, .agg (cv25 b))], [(0, .var 25 (cv25 b))], 1, Fr.emp, [], 0⟩ (by kernel_rfl) ?_
   obtain ⟨⟨r0_2, r1_2_2⟩, hx_14, h⟩ := bsome h
   refine RW.one fokW (r_call trivial rfl (k35 b _ hx_14) rfl rfl (r_end ?_))
   refine RW.au fokW 5 [] ⟨[(2, .ptr 0 0), (6, .d (I r1_2_2)), (9, .d (.sl 1 (List.map e3 r0_2)))], [(0, .var 25 (cv25 b))], 1, Fr.emp, [], 0⟩ (by kernel_rfl) ?_
   refine RW.nil ?_
   refine hQ_13 _ ?_
   refine AW.srwK (fun Q_15 hQ_15 => ?_)
   refine RW.au fokW 1 [] ⟨[(6, .d (I r1_2_2)), (9, .d (.sl 1 (List.map e3 r0_2))), (55, .agg (cv25 b))], [], 1, Fr.emp, [], 0⟩ (by kernel_rfl) ?_
   obtain ⟨⟨r0_4_1, r1_1⟩, hx_16, h⟩ := bsome h
   refine RW.one fokW (r_call trivial rfl (k36 b _ hx_16) rfl rfl (r_end ?_))
   refine RW.au fokW 5 [] ⟨[(6, .d (I r1_2_2)), (8, .d (I r1_1)), (9, .d (.sl 1 (List.map e3 r0_2))), (10, .d (.sl 1 (List.map e3 r0_4_1)))], [], 1, Fr.emp, [], 0⟩ (by kernel_rfl) ?_
   refine RW.nil ?_
   refine hQ_15 _ ?_
   refine AW.srwK (fun Q_17 hQ_17 => ?_)
   refine RW.au fokW 2 [] ⟨[(6, .d (I r1_2_2)), (8, .d (I r1_1)), (59, .d (.sl 1 (List.map e3 r0_2))), (60, .d (.sl 1 (List.map e3 r0_4_1)))], [], 1, Fr.emp, [], 0⟩ (by kernel_rfl) ?_
   obtain ⟨r0, hx_18, h⟩ := bsome h
   refine RW.one fokW (r_call trivial rfl (k37 r0_2 r0_4_1 _ hx_18) rfl rfl (r_end ?_))
   refine RW.au fokW 6 [62] ⟨[(67, .d (.bool (r0 && (decide (r1_2_2 = r1_1)))))], [], 1, Fr.emp, [], 0⟩ (by kernel_rfl) ?_
   obtain ⟨v, hx_19, h⟩ := bsome h
   refine RW.cut fokW 2 (⟨[(69, .d (.bool v))], [], 0, Fr.emp, [], 0⟩) ?_ ?_
   ·refine r_split 67 rfl (fun hb_21 => ?_) (fun hb_21 => ?_)
    ·have h := ifT hb_21 hx_19
     obtain ⟨t2, hx_20, h⟩ := bsome h
     refine r_call rfl rfl (k24 _ hx_20) rfl rfl ?_
     refine RunC.auX 1 ⟨[(69, .d (.bool t2))], [], 1, Fr.emp, [], 0⟩ (by kernel_rfl) ?_
     obtain rfl := Option.some.inj h
     refine RunC.finJ (Can.kp (by kernel_rfl))
    ·have h := ifF hb_21 hx_19
     refine RunC.auX 2 ⟨[(69, .d (.bool false))], [], 1, Fr.emp, [], 0⟩ (by kernel_rfl) ?_
     obtain rfl := Option.some.inj h
     refine RunC.finJ (Can.kp (by kernel_rfl))
   ·refine RW.au fokW 1 [] ⟨[(4, .d (.bool v))], [], 0, Fr.emp, [], 0⟩ (by kernel_rfl) ?_
    refine RW.nil ?_
    refine hQ_17 _ ?_
    obtain rfl := Option.some.inj h
    exact AW.ret (hR_0 _ (retX (.cons (.tmp rfl) .nil) (.refl _) rfl (by kernel_rfl) (by kernel_rfl)))
end Go.Proofs.Tz
