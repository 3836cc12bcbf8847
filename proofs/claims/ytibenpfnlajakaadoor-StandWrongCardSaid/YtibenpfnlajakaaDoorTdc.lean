/- Told functions, and that the program does so, part 3. Conditions: none. -/
import Derived.Test.YtibenpfnlajakaaDoorTdb
set_option linter.unusedVariables false
set_option linter.unusedSimpArgs false
namespace Go.Proofs.Tz
open Go Go.Abs Go.Proofs
def g37_4 (l : (List Int)) (m : (List Int)) : (Bool × Int) → Option (Ctl (Bool × Int) (Bool)) := fun  (is2, i) => (bif is2 then (some (decide (i < (l.length : Int)))) else (some false)).bind fun v => bif v then ((ixL l i).bind fun p => (ixL m i).bind fun p1 => some (.next ((decide (p = p1)), (wr (i + 1))))) else (some (.brk is2))
def g37 (l : (List Int)) (m : (List Int)) : Option Bool := ((whileC (g37_4 l m) 1000 ((decide ((l.length : Int) = (m.length : Int))), 0)).bind fun is1 => some is1).bind fun is => some is
theorem k37 (l : (List Int)) (m : (List Int)) (r : Bool) (h : g37 l m = some r) : SCall Tryd.prog Gs 37 [.d (.sl 1 (List.map e3 l)), .d (.sl 1 (List.map e3 m))] [] 0 Fr.emp (.d (.bool r)) [] 0 Fr.emp := by
 unfold g37 at h
 refine SCall.mkK Tryd.func37 c37 rfl rfl (by kernel_rfl) (fun Q_0 hR_0 hN_0 => ?_)
 refine AW.sa fokW [] ⟨[(0, .d (.sl 1 (List.map e3 l))), (1, .d (.sl 1 (List.map e3 m)))], [], 0, Fr.emp, [], 0⟩ (by kernel_rfl) ?_
 refine AW.srwK (fun Q_1 hQ_1 => ?_)
 refine RW.au fokW 1 [] ⟨[(0, .d (.sl 1 (List.map e3 l))), (1, .d (.sl 1 (List.map e3 m))), (7, .d (.sl 1 (List.map e3 l)))], [], 0, Fr.emp, [], 0⟩ (by kernel_rfl) ?_
 refine RW.one fokW (r_lenX trivial rfl lenm (r_end ?_))
 refine RW.au fokW 1 [] ⟨[(0, .d (.sl 1 (List.map e3 l))), (1, .d (.sl 1 (List.map e3 m))), (8, .d (I (l.length : Int))), (9, .d (.sl 1 (List.map e3 m)))], [], 0, Fr.emp, [], 0⟩ (by kernel_rfl) ?_
 refine RW.one fokW (r_lenX trivial rfl lenm (r_end ?_))
 refine RW.au fokW 2 [] ⟨[(0, .d (.sl 1 (List.map e3 l))), (1, .d (.sl 1 (List.map e3 m))), (5, .d (.bool (decide ((l.length : Int) = (m.length : Int)))))], [], 0, Fr.emp, [], 0⟩ (by kernel_rfl) ?_
 refine RW.nil ?_
 refine hQ_1 _ ?_
 obtain ⟨is, hx_2, h⟩ := bsome h
 refine AW.jnSK (fun (is : Bool) => ⟨[(5, .d (.bool is))], [], 0, Fr.emp, [], 0⟩) (c := is) (fun K_2 hK_2 => ?_) ?_
 ·have h := hx_2
  refine AW.sa fokW [] ⟨[(0, .d (.sl 1 (List.map e3 l))), (1, .d (.sl 1 (List.map e3 m))), (5, .d (.bool (decide ((l.length : Int) = (m.length : Int))))), (6, .d (I 0))], [], 0, Fr.emp, [], 0⟩ (by kernel_rfl) ?_
  obtain ⟨is1, hx_3, h⟩ := bsome h
  refine AW.jqSK (fun (is1 : Bool) => ⟨[(5, .d (.bool is1))], [], 0, Fr.emp, [], 0⟩) (c := is1) (fun K_3 hK_3 => ?_) ?_
  ·have h := hx_3
   refine AW.block ?_
   refine AW.whK (fun (⟨is2, i⟩ : Bool × Int) => ⟨[(0, .d (.sl 1 (List.map e3 l))), (1, .d (.sl 1 (List.map e3 m))), (5, .d (.bool is2)), (6, .d (I i))], [], 0, Fr.emp, [], 0⟩) (g37_4 l m) h (Can.kp (by kernel_rfl)) (fun s_4 c_4 h hb_4 K_4 hK_4 => ?_)
   obtain ⟨is2, i⟩ := s_4
   unfold g37_4 at h
   refine AW.seqK (fun K_5 hK_5 => ?_)
   refine AW.srwK (fun Q_6 hQ_6 => ?_)
   refine RW.au fokW 2 [] ⟨[(0, .d (.sl 1 (List.map e3 l))), (1, .d (.sl 1 (List.map e3 m))), (5, .d (.bool is2)), (6, .d (I i)), (13, .d (.bool is2))], [], 0, Fr.emp, [], 0⟩ (by kernel_rfl) ?_
   obtain ⟨v, hx_7, h⟩ := bsome h
   refine RW.cut fokW 5 (⟨[(0, .d (.sl 1 (List.map e3 l))), (1, .d (.sl 1 (List.map e3 m))), (5, .d (.bool is2)), (6, .d (I i)), (18, .d (.bool v))], [], 0, Fr.emp, [], 0⟩) ?_ ?_
   ·refine r_split 13 rfl (fun hb_8 => ?_) (fun hb_8 => ?_)
    ·have h := ifT hb_8 hx_7
     refine RunC.auX 2 ⟨[(0, .d (.sl 1 (List.map e3 l))), (1, .d (.sl 1 (List.map e3 m))), (5, .d (.bool is2)), (6, .d (I i)), (13, .d (.bool true)), (14, .d (I i)), (15, .d (.sl 1 (List.map e3 l)))], [], 0, Fr.emp, [], 0⟩ (by kernel_rfl) ?_
     refine r_lenX rfl rfl lenm ?_
     refine RunC.auX 2 ⟨[(0, .d (.sl 1 (List.map e3 l))), (1, .d (.sl 1 (List.map e3 m))), (5, .d (.bool is2)), (6, .d (I i)), (14, .d (I i)), (15, .d (.sl 1 (List.map e3 l))), (16, .d (I (l.length : Int))), (17, .d (.bool (decide (i < (l.length : Int))))), (18, .d (.bool (decide (i < (l.length : Int)))))], [], 0, Fr.emp, [], 0⟩ (by kernel_rfl) ?_
     obtain rfl := Option.some.inj h
     refine RunC.finJ (Can.kp (by kernel_rfl))
    ·have h := ifF hb_8 hx_7
     refine RunC.auX 5 ⟨[(0, .d (.sl 1 (List.map e3 l))), (1, .d (.sl 1 (List.map e3 m))), (5, .d (.bool is2)), (6, .d (I i)), (14, .undef), (15, .undef), (16, .undef), (17, .undef), (18, .d (.bool false))], [], 0, Fr.emp, [], 0⟩ (by kernel_rfl) ?_
     obtain rfl := Option.some.inj h
     refine RunC.finJ (Can.kp (by kernel_rfl))
   ·refine RW.nil ?_
    refine hQ_6 _ ?_
    refine AW.cond rfl (fun hb_9 => ?_) (fun hb_9 => ?_)
    ·have h := ifT hb_9 h
     refine AW.skip ?_
     refine hK_5 _ ?_
     refine AW.seqK (fun K_10 hK_10 => ?_)
     refine AW.block ?_
     refine AW.drw fokW ?_
     refine RunC.auX 2 ⟨[(0, .d (.sl 1 (List.map e3 l))), (1, .d (.sl 1 (List.map e3 m))), (6, .d (I i)), (21, .d (.sl 1 (List.map e3 l))), (22, .d (I i))], [], 0, Fr.emp, [], 0⟩ (by kernel_rfl) ?_
     obtain ⟨p, hv_12, h⟩ := bsome h
     refine r_iaD trivial rfl rfl (ixL_ok hv_12).1 (row := e3 p) (mapget (ixL_ok hv_12).2) ?_
     refine RunC.auX 3 ⟨[(0, .d (.sl 1 (List.map e3 l))), (1, .d (.sl 1 (List.map e3 m))), (6, .d (I i)), (24, .d (I p)), (25, .d (.sl 1 (List.map e3 m))), (26, .d (I i))], [], 0, Fr.emp, [], 0⟩ (by kernel_rfl) ?_
     obtain ⟨p1, hv_13, h⟩ := bsome h
     refine r_iaD trivial rfl rfl (ixL_ok hv_13).1 (row := e3 p1) (mapget (ixL_ok hv_13).2) ?_
     refine RunC.auX 3 ⟨[(0, .d (.sl 1 (List.map e3 l))), (1, .d (.sl 1 (List.map e3 m))), (5, .d (.bool (decide (p = p1)))), (6, .d (I i))], [], 0, Fr.emp, [], 0⟩ (by kernel_rfl) ?_
     refine RunC.fin ⟨[(0, .d (.sl 1 (List.map e3 l))), (1, .d (.sl 1 (List.map e3 m))), (5, .d (.bool (decide (p = p1)))), (6, .d (I i))], [], 0, Fr.emp, [], 0⟩ (by kernel_rfl) (by kernel_rfl) ?_
     refine hK_10 _ ?_
     refine AW.ra fokW [] ⟨[(0, .d (.sl 1 (List.map e3 l))), (1, .d (.sl 1 (List.map e3 m))), (5, .d (.bool (decide (p = p1)))), (6, .d (I (wr (i + 1))))], [], 0, Fr.emp, [], 0⟩ (by kernel_rfl) ?_
     obtain rfl := Option.some.inj h
     exact hK_4 _ _ rfl (Can.kp (by kernel_rfl))
    ·have h := ifF hb_9 h
     refine AW.exit ?_
     obtain rfl := Option.some.inj h
     obtain rfl := hb_4 _ rfl
     exact hK_3 _ (Can.kp (by kernel_rfl))
  ·obtain rfl := Option.some.inj h
   exact hK_2 _ (Can.kp (by kernel_rfl))
 ·refine AW.sa fokW [] ⟨[(4, .d (.bool is))], [], 0, Fr.emp, [], 0⟩ (by kernel_rfl) ?_
  obtain rfl := Option.some.inj h
  exact AW.ret (hR_0 _ (retX (.cons (.tmp rfl) .nil) (.refl _) rfl (by kernel_rfl) (by kernel_rfl)))
def g24  : Option Bool := (g55).bind fun r0 => (g20 r0 20 (-8)).bind fun (r0_6, r1_6) => (g55).bind fun r0_1 => (g22 r0_1 10 (-8)).bind fun (r0_3, r1_4) => (g59).bind fun r0_1_1 => (g27 r0_1_1).bind fun (r0_4, r1_5) => (g55).bind fun r0_2 => (g29 r0_2 20).bind fun (r0_4_1, r1_5_1) => (g55).bind fun r0_5 => (g31 r0_5 10).bind fun (r0_5_1, r1_5_2) => bindC ((bif (decide (r1_6 ≠ 0)) then (some true) else (bif (decide (r1_4 ≠ 0)) then (some true) else (bif (decide (r1_5 ≠ 0)) then (some true) else (bif (decide (r1_5_1 ≠ 0)) then (some true) else (bif (decide (r1_5_2 ≠ 0)) then (some true) else (bif (decide (r0_6 ≠ 1)) then (some true) else ((g60 38 17).bind fun r0_7 => bif (true != ((r0_3.Top == r0_7.Top) && ((r0_3.Bottom == r0_7.Bottom) && true))) then (some true) else (bif (decide (r0_4 ≠ 22)) then (some true) else ((g46 (-7) 8).bind fun r0_8 => bif (true != ((r0_4_1.Low == r0_8.Low) && ((r0_4_1.High == r0_8.High) && true))) then (some true) else (some (decide (r0_5_1 ≠ 6)))))))))))).bind fun v => bif v then (some (.brk false)) else (some (.next ())) : Option (Ctl (Unit) (Bool))) fun _ => (g55).bind fun r0_9 => (g33 r0_9).bind fun (r0_4_2, r1_5_3) => (g58).bind fun r0_3_1 => (g35 r0_3_1).bind fun (r0_2_1, r1_2) => (g55).bind fun r0_10 => (g25 r0_10 19).bind fun (r0_4_3, r1_4_1) => (g55).bind fun r0_11 => (g16 r0_11).bind fun (r0_1_2, r1_1) => (g56).bind fun r0_1_3 => (g22 r0_1_3 30 (-8)).bind fun (r0_3_2, r1_4_2) => (bif (decide (r1_5_3 = 0)) then (bif (decide (r1_2 = 0)) then (bif (decide (r1_4_1 = 0)) then (bif (decide (r1_1 = 0)) then (bif (decide (r1_4_2 = 0)) then (bif (decide (r0_4_2 = 2)) then ((g37 r0_2_1 [0]).bind fun r0_12 => bif r0_12 then (bif r0_4_3 then (bif r0_1_2 then ((g60 (-200) 9).bind fun r0_13 => some (false != ((r0_3_2.Top == r0_13.Top) && ((r0_3_2.Bottom == r0_13.Bottom) && true)))) else (some false)) else (some false)) else (some false)) else (some false)) else (some false)) else (some false)) else (some false)) else (some false)) else (some false)).bind fun t => some t
theorem k24  (r : Bool) (h : g24 = some r) : SCall Tryd.prog Gs 24 [] [] 0 Fr.emp (.d (.bool r)) [] 0 Fr.emp := by
 unfold g24 at h
 refine SCall.mkK Tryd.func24 c24 rfl rfl (by kernel_rfl) (fun Q_0 hR_0 hN_0 => ?_)
 refine AW.sa fokW [] ⟨[], [], 0, Fr.emp, [], 0⟩ (by kernel_rfl) ?_
 refine AW.srwK (fun Q_1 hQ_1 => ?_)
 obtain ⟨r0, hx_2, h⟩ := bsome h
 refine RW.one fokW (r_call trivial rfl (k55 _ hx_2) rfl rfl (r_end ?_))
 obtain ⟨⟨r0_6, r1_6⟩, hx_3, h⟩ := bsome h
 refine RW.one fokW (r_call trivial rfl (k20 r0 20 (-8) _ hx_3) rfl rfl (r_end ?_))
 refine RW.au fokW 5 [] ⟨[(1, .d (I r0_6)), (2, .d (I r1_6))], [], 0, Fr.emp, [], 0⟩ (by kernel_rfl) ?_
 refine RW.nil ?_
 refine hQ_1 _ ?_
 refine AW.srwK (fun Q_4 hQ_4 => ?_)
 obtain ⟨r0_1, hx_5, h⟩ := bsome h
 refine RW.one fokW (r_call trivial rfl (k55 _ hx_5) rfl rfl (r_end ?_))
 obtain ⟨⟨r0_3, r1_4⟩, hx_6, h⟩ := bsome h
 refine RW.one fokW (r_call trivial rfl (k22 r0_1 10 (-8) _ hx_6) rfl rfl (r_end ?_))
 refine RW.au fokW 6 [] ⟨[(1, .d (I r0_6)), (2, .d (I r1_6)), (3, .ptr 0 0), (4, .d (I r1_4))], [(0, .var 34 [.d (I r0_3.Top), .d (I r0_3.Bottom)])], 1, Fr.emp, [], 0⟩ (by kernel_rfl) ?_
 refine RW.nil ?_
 refine hQ_4 _ ?_
 refine AW.srwK (fun Q_7 hQ_7 => ?_)
 obtain ⟨r0_1_1, hx_8, h⟩ := bsome h
 refine RW.one fokW (r_call trivial rfl (k59 _ hx_8) rfl rfl (r_end ?_))
 obtain ⟨⟨r0_4, r1_5⟩, hx_9, h⟩ := bsome h
 refine RW.one fokW (r_call trivial rfl (k27 r0_1_1 _ hx_9) rfl rfl (r_end ?_))
 refine RW.au fokW 5 [] ⟨[(1, .d (I r0_6)), (2, .d (I r1_6)), (3, .ptr 0 0), (4, .d (I r1_4)), (5, .d (I r0_4)), (6, .d (I r1_5))], [(0, .var 34 [.d (I r0_3.Top), .d (I r0_3.Bottom)])], 1, Fr.emp, [], 0⟩ (by kernel_rfl) ?_
 refine RW.nil ?_
 refine hQ_7 _ ?_
 refine AW.srwK (fun Q_10 hQ_10 => ?_)
 obtain ⟨r0_2, hx_11, h⟩ := bsome h
 refine RW.one fokW (r_call trivial rfl (k55 _ hx_11) rfl rfl (r_end ?_))
 obtain ⟨⟨r0_4_1, r1_5_1⟩, hx_12, h⟩ := bsome h
 refine RW.one fokW (r_call trivial rfl (k29 r0_2 20 _ hx_12) rfl rfl (r_end ?_))
 refine RW.au fokW 6 [] ⟨[(1, .d (I r0_6)), (2, .d (I r1_6)), (3, .ptr 0 0), (4, .d (I r1_4)), (5, .d (I r0_4)), (6, .d (I r1_5)), (7, .ptr 1 0), (8, .d (I r1_5_1))], [(1, .var 42 [.d (I r0_4_1.Low), .d (I r0_4_1.High)]), (0, .var 34 [.d (I r0_3.Top), .d (I r0_3.Bottom)])], 2, Fr.emp, [], 0⟩ (by kernel_rfl) ?_
 refine RW.nil ?_
 refine hQ_10 _ ?_
 refine AW.srwK (fun Q_13 hQ_13 => ?_)
 obtain ⟨r0_5, hx_14, h⟩ := bsome h
 refine RW.one fokW (r_call trivial rfl (k55 _ hx_14) rfl rfl (r_end ?_))
 obtain ⟨⟨r0_5_1, r1_5_2⟩, hx_15, h⟩ := bsome h
 refine RW.one fokW (r_call trivial rfl (k31 r0_5 10 _ hx_15) rfl rfl (r_end ?_))
 refine RW.au fokW 5 [] ⟨[(1, .d (I r0_6)), (2, .d (I r1_6)), (3, .ptr 0 0), (4, .d (I r1_4)), (5, .d (I r0_4)), (6, .d (I r1_5)), (7, .ptr 1 0), (8, .d (I r1_5_1)), (9, .d (I r0_5_1)), (10, .d (I r1_5_2))], [(1, .var 42 [.d (I r0_4_1.Low), .d (I r0_4_1.High)]), (0, .var 34 [.d (I r0_3.Top), .d (I r0_3.Bottom)])], 2, Fr.emp, [], 0⟩ (by kernel_rfl) ?_
 refine RW.nil ?_
 refine hQ_13 _ ?_
 obtain ⟨c_16, hx_16, hk_16⟩ := bsomeC h
 refine AW.jnK (fun (_ : Unit) => ⟨[], [], 0, Fr.emp, [], 0⟩) (c := c_16) (fun K_16 hK_16 => ?_) (fun j_16 hj_16 => ?_)
 ·have h := hx_16
  obtain ⟨v, hx_17, h⟩ := bsome h
  refine AW.jnSK (fun (v : Bool) => ⟨[(80, .d (.bool v))], [], 0, Fr.emp, [], 0⟩) (c := v) (fun K_17 hK_17 => ?_) ?_
  ·have h := hx_17
   refine AW.drw fokW ?_
   refine RunC.auX 3 ⟨[(1, .d (I r0_6)), (3, .ptr 0 0), (4, .d (I r1_4)), (5, .d (I r0_4)), (6, .d (I r1_5)), (7, .ptr 1 0), (8, .d (I r1_5_1)), (9, .d (I r0_5_1)), (10, .d (I r1_5_2)), (43, .d (.bool (decide (r1_6 ≠ 0))))], [(1, .var 42 [.d (I r0_4_1.Low), .d (I r0_4_1.High)]), (0, .var 34 [.d (I r0_3.Top), .d (I r0_3.Bottom)])], 2, Fr.emp, [], 0⟩ (by kernel_rfl) ?_
   refine r_split 43 rfl (fun hb_19 => ?_) (fun hb_19 => ?_)
   ·have h := ifT hb_19 h
    refine RunC.auX 37 ⟨[(80, .d (.bool true))], [(1, .var 42 [.d (I r0_4_1.Low), .d (I r0_4_1.High)]), (0, .var 34 [.d (I r0_3.Top), .d (I r0_3.Bottom)])], 2, Fr.emp, [], 0⟩ (by kernel_rfl) ?_
    refine RunC.fin ⟨[(80, .d (.bool true))], [], 2, Fr.emp, [], 0⟩ (by kernel_rfl) (by kernel_rfl) ?_
    obtain rfl := Option.some.inj h
    exact hK_17 _ (Can.kp (by kernel_rfl))
   ·have h := ifF hb_19 h
    refine RunC.auX 4 ⟨[(1, .d (I r0_6)), (3, .ptr 0 0), (5, .d (I r0_4)), (6, .d (I r1_5)), (7, .ptr 1 0), (8, .d (I r1_5_1)), (9, .d (I r0_5_1)), (10, .d (I r1_5_2)), (47, .d (.bool (decide (r1_4 ≠ 0))))], [(1, .var 42 [.d (I r0_4_1.Low), .d (I r0_4_1.High)]), (0, .var 34 [.d (I r0_3.Top), .d (I r0_3.Bottom)])], 2, Fr.emp, [], 0⟩ (by kernel_rfl) ?_
    refine r_split 47 rfl (fun hb_20 => ?_) (fun hb_20 => ?_)
    ·have h := ifT hb_20 h
     refine RunC.auX 33 ⟨[(80, .d (.bool true))], [(1, .var 42 [.d (I r0_4_1.Low), .d (I r0_4_1.High)]), (0, .var 34 [.d (I r0_3.Top), .d (I r0_3.Bottom)])], 2, Fr.emp, [], 0⟩ (by kernel_rfl) ?_
     refine RunC.fin ⟨[(80, .d (.bool true))], [], 2, Fr.emp, [], 0⟩ (by kernel_rfl) (by kernel_rfl) ?_
     obtain rfl := Option.some.inj h
     exact hK_17 _ (Can.kp (by kernel_rfl))
    ·have h := ifF hb_20 h
     refine RunC.auX 4 ⟨[(1, .d (I r0_6)), (3, .ptr 0 0), (5, .d (I r0_4)), (7, .ptr 1 0), (8, .d (I r1_5_1)), (9, .d (I r0_5_1)), (10, .d (I r1_5_2)), (51, .d (.bool (decide (r1_5 ≠ 0))))], [(1, .var 42 [.d (I r0_4_1.Low), .d (I r0_4_1.High)]), (0, .var 34 [.d (I r0_3.Top), .d (I r0_3.Bottom)])], 2, Fr.emp, [], 0⟩ (by kernel_rfl) ?_
     refine r_split 51 rfl (fun hb_21 => ?_) (fun hb_21 => ?_)
     ·have h := ifT hb_21 h
      refine RunC.auX 29 ⟨[(80, .d (.bool true))], [(1, .var 42 [.d (I r0_4_1.Low), .d (I r0_4_1.High)]), (0, .var 34 [.d (I r0_3.Top), .d (I r0_3.Bottom)])], 2, Fr.emp, [], 0⟩ (by kernel_rfl) ?_
      refine RunC.fin ⟨[(80, .d (.bool true))], [], 2, Fr.emp, [], 0⟩ (by kernel_rfl) (by kernel_rfl) ?_
      obtain rfl := Option.some.inj h
      exact hK_17 _ (Can.kp (by kernel_rfl))
     ·have h := ifF hb_21 h
      refine RunC.auX 4 ⟨[(1, .d (I r0_6)), (3, .ptr 0 0), (5, .d (I r0_4)), (7, .ptr 1 0), (9, .d (I r0_5_1)), (10, .d (I r1_5_2)), (55, .d (.bool (decide (r1_5_1 ≠ 0))))], [(1, .var 42 [.d (I r0_4_1.Low), .d (I r0_4_1.High)]), (0, .var 34 [.d (I r0_3.Top), .d (I r0_3.Bottom)])], 2, Fr.emp, [], 0⟩ (by kernel_rfl) ?_
      refine r_split 55 rfl (fun hb_22 => ?_) (fun hb_22 => ?_)
      ·have h := ifT hb_22 h
       refine RunC.auX 25 ⟨[(80, .d (.bool true))], [(1, .var 42 [.d (I r0_4_1.Low), .d (I r0_4_1.High)]), (0, .var 34 [.d (I r0_3.Top), .d (I r0_3.Bottom)])], 2, Fr.emp, [], 0⟩ (by kernel_rfl) ?_
       refine RunC.fin ⟨[(80, .d (.bool true))], [], 2, Fr.emp, [], 0⟩ (by kernel_rfl) (by kernel_rfl) ?_
       obtain rfl := Option.some.inj h
       exact hK_17 _ (Can.kp (by kernel_rfl))
      ·have h := ifF hb_22 h
       refine RunC.auX 4 ⟨[(1, .d (I r0_6)), (3, .ptr 0 0), (5, .d (I r0_4)), (7, .ptr 1 0), (9, .d (I r0_5_1)), (59, .d (.bool (decide (r1_5_2 ≠ 0))))], [(1, .var 42 [.d (I r0_4_1.Low), .d (I r0_4_1.High)]), (0, .var 34 [.d (I r0_3.Top), .d (I r0_3.Bottom)])], 2, Fr.emp, [], 0⟩ (by kernel_rfl) ?_
       refine r_split 59 rfl (fun hb_23 => ?_) (fun hb_23 => ?_)
       ·have h := ifT hb_23 h
        refine RunC.auX 21 ⟨[(80, .d (.bool true))], [(1, .var 42 [.d (I r0_4_1.Low), .d (I r0_4_1.High)]), (0, .var 34 [.d (I r0_3.Top), .d (I r0_3.Bottom)])], 2, Fr.emp, [], 0⟩ (by kernel_rfl) ?_
        refine RunC.fin ⟨[(80, .d (.bool true))], [], 2, Fr.emp, [], 0⟩ (by kernel_rfl) (by kernel_rfl) ?_
        obtain rfl := Option.some.inj h
        exact hK_17 _ (Can.kp (by kernel_rfl))
       ·have h := ifF hb_23 h
        refine RunC.auX 4 ⟨[(3, .ptr 0 0), (5, .d (I r0_4)), (7, .ptr 1 0), (9, .d (I r0_5_1)), (63, .d (.bool (decide (r0_6 ≠ 1))))], [(1, .var 42 [.d (I r0_4_1.Low), .d (I r0_4_1.High)]), (0, .var 34 [.d (I r0_3.Top), .d (I r0_3.Bottom)])], 2, Fr.emp, [], 0⟩ (by kernel_rfl) ?_
        refine r_split 63 rfl (fun hb_24 => ?_) (fun hb_24 => ?_)
        ·have h := ifT hb_24 h
         refine RunC.auX 17 ⟨[(80, .d (.bool true))], [(1, .var 42 [.d (I r0_4_1.Low), .d (I r0_4_1.High)]), (0, .var 34 [.d (I r0_3.Top), .d (I r0_3.Bottom)])], 2, Fr.emp, [], 0⟩ (by kernel_rfl) ?_
         refine RunC.fin ⟨[(80, .d (.bool true))], [], 2, Fr.emp, [], 0⟩ (by kernel_rfl) (by kernel_rfl) ?_
         obtain rfl := Option.some.inj h
         exact hK_17 _ (Can.kp (by kernel_rfl))
        ·have h := ifF hb_24 h
         refine RunC.auX 1 ⟨[(5, .d (I r0_4)), (7, .ptr 1 0), (9, .d (I r0_5_1)), (63, .d (.bool false)), (64, .agg [.d (I r0_3.Top), .d (I r0_3.Bottom)])], [(1, .var 42 [.d (I r0_4_1.Low), .d (I r0_4_1.High)]), (0, .var 34 [.d (I r0_3.Top), .d (I r0_3.Bottom)])], 2, Fr.emp, [], 0⟩ (by kernel_rfl) ?_
         obtain ⟨r0_7, hx_25, h⟩ := bsome h
         refine r_call rfl rfl (k60 38 17 _ hx_25) rfl rfl ?_
         refine r_aeq rfl rfl rfl rfl rfl ft34 rfl rfl rfl ?_
         refine RunC.auX 2 ⟨[(5, .d (I r0_4)), (7, .ptr 1 0), (9, .d (I r0_5_1)), (68, .d (.bool (true != ((r0_3.Top == r0_7.Top) && ((r0_3.Bottom == r0_7.Bottom) && true)))))], [(1, .var 42 [.d (I r0_4_1.Low), .d (I r0_4_1.High)]), (0, .var 34 [.d (I r0_3.Top), .d (I r0_3.Bottom)])], 2, Fr.emp, [], 0⟩ (by kernel_rfl) ?_
         refine r_split 68 rfl (fun hb_26 => ?_) (fun hb_26 => ?_)
         ·have h := ifT hb_26 h
          refine RunC.auX 12 ⟨[(80, .d (.bool true))], [(1, .var 42 [.d (I r0_4_1.Low), .d (I r0_4_1.High)]), (0, .var 34 [.d (I r0_3.Top), .d (I r0_3.Bottom)])], 2, Fr.emp, [], 0⟩ (by kernel_rfl) ?_
          refine RunC.fin ⟨[(80, .d (.bool true))], [], 2, Fr.emp, [], 0⟩ (by kernel_rfl) (by kernel_rfl) ?_
          obtain rfl := Option.some.inj h
          exact hK_17 _ (Can.kp (by kernel_rfl))
         ·have h := ifF hb_26 h
          refine RunC.auX 4 ⟨[(7, .ptr 1 0), (9, .d (I r0_5_1)), (72, .d (.bool (decide (r0_4 ≠ 22))))], [(1, .var 42 [.d (I r0_4_1.Low), .d (I r0_4_1.High)]), (0, .var 34 [.d (I r0_3.Top), .d (I r0_3.Bottom)])], 2, Fr.emp, [], 0⟩ (by kernel_rfl) ?_
          refine r_split 72 rfl (fun hb_27 => ?_) (fun hb_27 => ?_)
          ·have h := ifT hb_27 h
           refine RunC.auX 8 ⟨[(80, .d (.bool true))], [(1, .var 42 [.d (I r0_4_1.Low), .d (I r0_4_1.High)]), (0, .var 34 [.d (I r0_3.Top), .d (I r0_3.Bottom)])], 2, Fr.emp, [], 0⟩ (by kernel_rfl) ?_
           refine RunC.fin ⟨[(80, .d (.bool true))], [], 2, Fr.emp, [], 0⟩ (by kernel_rfl) (by kernel_rfl) ?_
           obtain rfl := Option.some.inj h
           exact hK_17 _ (Can.kp (by kernel_rfl))
          ·have h := ifF hb_27 h
           refine RunC.auX 1 ⟨[(9, .d (I r0_5_1)), (72, .d (.bool false)), (73, .agg [.d (I r0_4_1.Low), .d (I r0_4_1.High)])], [(1, .var 42 [.d (I r0_4_1.Low), .d (I r0_4_1.High)]), (0, .var 34 [.d (I r0_3.Top), .d (I r0_3.Bottom)])], 2, Fr.emp, [], 0⟩ (by kernel_rfl) ?_
           obtain ⟨r0_8, hx_28, h⟩ := bsome h
           refine r_call rfl rfl (k46 (-7) 8 _ hx_28) rfl rfl ?_
           refine r_aeq rfl rfl rfl rfl rfl ft42 rfl rfl rfl ?_
           refine RunC.auX 2 ⟨[(9, .d (I r0_5_1)), (77, .d (.bool (true != ((r0_4_1.Low == r0_8.Low) && ((r0_4_1.High == r0_8.High) && true)))))], [(1, .var 42 [.d (I r0_4_1.Low), .d (I r0_4_1.High)]), (0, .var 34 [.d (I r0_3.Top), .d (I r0_3.Bottom)])], 2, Fr.emp, [], 0⟩ (by kernel_rfl) ?_
           refine r_split 77 rfl (fun hb_29 => ?_) (fun hb_29 => ?_)
           ·have h := ifT hb_29 h
            refine RunC.auX 3 ⟨[(80, .d (.bool true))], [(1, .var 42 [.d (I r0_4_1.Low), .d (I r0_4_1.High)]), (0, .var 34 [.d (I r0_3.Top), .d (I r0_3.Bottom)])], 2, Fr.emp, [], 0⟩ (by kernel_rfl) ?_
            refine RunC.fin ⟨[(80, .d (.bool true))], [], 2, Fr.emp, [], 0⟩ (by kernel_rfl) (by kernel_rfl) ?_
            obtain rfl := Option.some.inj h
            exact hK_17 _ (Can.kp (by kernel_rfl))
           ·have h := ifF hb_29 h
            refine RunC.auX 3 ⟨[(80, .d (.bool (decide (r0_5_1 ≠ 6))))], [(1, .var 42 [.d (I r0_4_1.Low), .d (I r0_4_1.High)]), (0, .var 34 [.d (I r0_3.Top), .d (I r0_3.Bottom)])], 2, Fr.emp, [], 0⟩ (by kernel_rfl) ?_
            refine RunC.fin ⟨[(80, .d (.bool (decide (r0_5_1 ≠ 6))))], [], 2, Fr.emp, [], 0⟩ (by kernel_rfl) (by kernel_rfl) ?_
            obtain rfl := Option.some.inj h
            exact hK_17 _ (Can.kp (by kernel_rfl))
  ·refine AW.cond rfl (fun hb_30 => ?_) (fun hb_30 => ?_)
   ·have h := ifT hb_30 h
    refine AW.sa fokW [] ⟨[(0, .d (.bool false))], [], 0, Fr.emp, [], 0⟩ (by kernel_rfl) ?_
    obtain rfl := Option.some.inj h
    obtain rfl := Aft.bk hk_16
    exact AW.ret (hR_0 _ (retX (.cons (.tmp rfl) .nil) (.refl _) rfl (by kernel_rfl) (by kernel_rfl)))
   ·have h := ifF hb_30 h
    refine AW.skip ?_
    obtain rfl := Option.some.inj h
    exact hK_16 _ _ rfl (Can.kp (by kernel_rfl))
 ·subst hj_16
  have h := Aft.nx hk_16
  refine AW.srwK (fun Q_31 hQ_31 => ?_)
  obtain ⟨r0_9, hx_32, h⟩ := bsome h
  refine RW.one fokW (r_call trivial rfl (k55 _ hx_32) rfl rfl (r_end ?_))
  obtain ⟨⟨r0_4_2, r1_5_3⟩, hx_33, h⟩ := bsome h
  refine RW.one fokW (r_call trivial rfl (k33 r0_9 _ hx_33) rfl rfl (r_end ?_))
  refine RW.au fokW 5 [] ⟨[(2, .d (I r1_5_3)), (11, .d (I r0_4_2))], [], 0, Fr.emp, [], 0⟩ (by kernel_rfl) ?_
  refine RW.nil ?_
  refine hQ_31 _ ?_
  refine AW.srwK (fun Q_34 hQ_34 => ?_)
  obtain ⟨r0_3_1, hx_35, h⟩ := bsome h
  refine RW.one fokW (r_call trivial rfl (k58 _ hx_35) rfl rfl (r_end ?_))
  obtain ⟨⟨r0_2_1, r1_2⟩, hx_36, h⟩ := bsome h
  refine RW.one fokW (r_call trivial rfl (k35 r0_3_1 _ hx_36) rfl rfl (r_end ?_))
  refine RW.au fokW 5 [] ⟨[(2, .d (I r1_5_3)), (4, .d (I r1_2)), (11, .d (I r0_4_2)), (12, .d (.sl 1 (List.map e3 r0_2_1)))], [], 0, Fr.emp, [], 0⟩ (by kernel_rfl) ?_
  refine RW.nil ?_
  refine hQ_34 _ ?_
  refine AW.srwK (fun Q_37 hQ_37 => ?_)
  obtain ⟨r0_10, hx_38, h⟩ := bsome h
  refine RW.one fokW (r_call trivial rfl (k55 _ hx_38) rfl rfl (r_end ?_))
  obtain ⟨⟨r0_4_3, r1_4_1⟩, hx_39, h⟩ := bsome h
  refine RW.one fokW (r_call trivial rfl (k25 r0_10 19 _ hx_39) rfl rfl (r_end ?_))
  refine RW.au fokW 5 [] ⟨[(2, .d (I r1_5_3)), (4, .d (I r1_2)), (6, .d (I r1_4_1)), (11, .d (I r0_4_2)), (12, .d (.sl 1 (List.map e3 r0_2_1))), (13, .d (.bool r0_4_3))], [], 0, Fr.emp, [], 0⟩ (by kernel_rfl) ?_
  refine RW.nil ?_
  refine hQ_37 _ ?_
  refine AW.srwK (fun Q_40 hQ_40 => ?_)
  obtain ⟨r0_11, hx_41, h⟩ := bsome h
  refine RW.one fokW (r_call trivial rfl (k55 _ hx_41) rfl rfl (r_end ?_))
  obtain ⟨⟨r0_1_2, r1_1⟩, hx_42, h⟩ := bsome h
  refine RW.one fokW (r_call trivial rfl (k16 r0_11 _ hx_42) rfl rfl (r_end ?_))
  refine RW.au fokW 5 [] ⟨[(2, .d (I r1_5_3)), (4, .d (I r1_2)), (6, .d (I r1_4_1)), (8, .d (I r1_1)), (11, .d (I r0_4_2)), (12, .d (.sl 1 (List.map e3 r0_2_1))), (13, .d (.bool r0_4_3)), (14, .d (.bool r0_1_2))], [], 0, Fr.emp, [], 0⟩ (by kernel_rfl) ?_
  refine RW.nil ?_
  refine hQ_40 _ ?_
  refine AW.srwK (fun Q_43 hQ_43 => ?_)
  obtain ⟨r0_1_3, hx_44, h⟩ := bsome h
  refine RW.one fokW (r_call trivial rfl (k56 _ hx_44) rfl rfl (r_end ?_))
  obtain ⟨⟨r0_3_2, r1_4_2⟩, hx_45, h⟩ := bsome h
  refine RW.one fokW (r_call trivial rfl (k22 r0_1_3 30 (-8) _ hx_45) rfl rfl (r_end ?_))
  refine RW.au fokW 6 [] ⟨[(2, .d (I r1_5_3)), (4, .d (I r1_2)), (6, .d (I r1_4_1)), (8, .d (I r1_1)), (10, .d (I r1_4_2)), (11, .d (I r0_4_2)), (12, .d (.sl 1 (List.map e3 r0_2_1))), (13, .d (.bool r0_4_3)), (14, .d (.bool r0_1_2)), (15, .ptr 0 0)], [(0, .var 34 [.d (I r0_3_2.Top), .d (I r0_3_2.Bottom)])], 1, Fr.emp, [], 0⟩ (by kernel_rfl) ?_
  refine RW.nil ?_
  refine hQ_43 _ ?_
  obtain ⟨t, hx_46, h⟩ := bsome h
  refine AW.jnSK (fun (t : Bool) => ⟨[(0, .d (.bool t))], [], 0, Fr.emp, [], 0⟩) (c := t) (fun K_46 hK_46 => ?_) ?_
  ·have h := hx_46
   refine AW.drw fokW ?_
   refine RunC.auX 3 ⟨[(4, .d (I r1_2)), (6, .d (I r1_4_1)), (8, .d (I r1_1)), (10, .d (I r1_4_2)), (11, .d (I r0_4_2)), (12, .d (.sl 1 (List.map e3 r0_2_1))), (13, .d (.bool r0_4_3)), (14, .d (.bool r0_1_2)), (15, .ptr 0 0), (108, .d (.bool (decide (r1_5_3 = 0))))], [(0, .var 34 [.d (I r0_3_2.Top), .d (I r0_3_2.Bottom)])], 1, Fr.emp, [], 0⟩ (by kernel_rfl) ?_
   refine r_split 108 rfl (fun hb_48 => ?_) (fun hb_48 => ?_)
   ·have h := ifT hb_48 h
    refine RunC.auX 4 ⟨[(6, .d (I r1_4_1)), (8, .d (I r1_1)), (10, .d (I r1_4_2)), (11, .d (I r0_4_2)), (12, .d (.sl 1 (List.map e3 r0_2_1))), (13, .d (.bool r0_4_3)), (14, .d (.bool r0_1_2)), (15, .ptr 0 0), (112, .d (.bool (decide (r1_2 = 0))))], [(0, .var 34 [.d (I r0_3_2.Top), .d (I r0_3_2.Bottom)])], 1, Fr.emp, [], 0⟩ (by kernel_rfl) ?_
    refine r_split 112 rfl (fun hb_49 => ?_) (fun hb_49 => ?_)
    ·have h := ifT hb_49 h
     refine RunC.auX 4 ⟨[(8, .d (I r1_1)), (10, .d (I r1_4_2)), (11, .d (I r0_4_2)), (12, .d (.sl 1 (List.map e3 r0_2_1))), (13, .d (.bool r0_4_3)), (14, .d (.bool r0_1_2)), (15, .ptr 0 0), (116, .d (.bool (decide (r1_4_1 = 0))))], [(0, .var 34 [.d (I r0_3_2.Top), .d (I r0_3_2.Bottom)])], 1, Fr.emp, [], 0⟩ (by kernel_rfl) ?_
     refine r_split 116 rfl (fun hb_50 => ?_) (fun hb_50 => ?_)
     ·have h := ifT hb_50 h
      refine RunC.auX 4 ⟨[(10, .d (I r1_4_2)), (11, .d (I r0_4_2)), (12, .d (.sl 1 (List.map e3 r0_2_1))), (13, .d (.bool r0_4_3)), (14, .d (.bool r0_1_2)), (15, .ptr 0 0), (120, .d (.bool (decide (r1_1 = 0))))], [(0, .var 34 [.d (I r0_3_2.Top), .d (I r0_3_2.Bottom)])], 1, Fr.emp, [], 0⟩ (by kernel_rfl) ?_
      refine r_split 120 rfl (fun hb_51 => ?_) (fun hb_51 => ?_)
      ·have h := ifT hb_51 h
       refine RunC.auX 4 ⟨[(11, .d (I r0_4_2)), (12, .d (.sl 1 (List.map e3 r0_2_1))), (13, .d (.bool r0_4_3)), (14, .d (.bool r0_1_2)), (15, .ptr 0 0), (124, .d (.bool (decide (r1_4_2 = 0))))], [(0, .var 34 [.d (I r0_3_2.Top), .d (I r0_3_2.Bottom)])], 1, Fr.emp, [], 0⟩ (by kernel_rfl) ?_
       refine r_split 124 rfl (fun hb_52 => ?_) (fun hb_52 => ?_)
       ·have h := ifT hb_52 h
        refine RunC.auX 4 ⟨[(12, .d (.sl 1 (List.map e3 r0_2_1))), (13, .d (.bool r0_4_3)), (14, .d (.bool r0_1_2)), (15, .ptr 0 0), (128, .d (.bool (decide (r0_4_2 = 2))))], [(0, .var 34 [.d (I r0_3_2.Top), .d (I r0_3_2.Bottom)])], 1, Fr.emp, [], 0⟩ (by kernel_rfl) ?_
        refine r_split 128 rfl (fun hb_53 => ?_) (fun hb_53 => ?_)
        ·have h := ifT hb_53 h
         refine RunC.auX 2 ⟨[(13, .d (.bool r0_4_3)), (14, .d (.bool r0_1_2)), (15, .ptr 0 0), (128, .d (.bool true)), (129, .d (.sl 1 (List.map e3 r0_2_1))), (130, .own 1 (List.map e3 [0]).length)], [(1, .row 3 1 (List.map e3 [0])), (0, .var 34 [.d (I r0_3_2.Top), .d (I r0_3_2.Bottom)])], 2, Fr.emp, [], 0⟩ (by kernel_rfl) ?_
         obtain ⟨r0_12, hx_54, h⟩ := bsome h
         refine r_callF (rs := [(1, .row 3 1 (List.map e3 [0]))]) rfl rfl (k37 r0_2_1 [0] _ hx_54) ⟨rfl, trivial⟩ ⟨.refl _, (.own rfl rfl), trivial⟩ rfl rfl rfl ?_
         refine RunC.auX 2 ⟨[(13, .d (.bool r0_4_3)), (14, .d (.bool r0_1_2)), (15, .ptr 0 0), (133, .d (.bool r0_12))], [(1, .row 3 1 (List.map e3 [0])), (0, .var 34 [.d (I r0_3_2.Top), .d (I r0_3_2.Bottom)])], 2, Fr.emp, [], 0⟩ (by kernel_rfl) ?_
         refine r_split 133 rfl (fun hb_55 => ?_) (fun hb_55 => ?_)
         ·have h := ifT hb_55 h
          refine RunC.auX 3 ⟨[(14, .d (.bool r0_1_2)), (15, .ptr 0 0), (136, .d (.bool r0_4_3))], [(1, .row 3 1 (List.map e3 [0])), (0, .var 34 [.d (I r0_3_2.Top), .d (I r0_3_2.Bottom)])], 2, Fr.emp, [], 0⟩ (by kernel_rfl) ?_
          refine r_split 136 rfl (fun hb_56 => ?_) (fun hb_56 => ?_)
          ·have h := ifT hb_56 h
           refine RunC.auX 3 ⟨[(15, .ptr 0 0), (139, .d (.bool r0_1_2))], [(1, .row 3 1 (List.map e3 [0])), (0, .var 34 [.d (I r0_3_2.Top), .d (I r0_3_2.Bottom)])], 2, Fr.emp, [], 0⟩ (by kernel_rfl) ?_
           refine r_split 139 rfl (fun hb_57 => ?_) (fun hb_57 => ?_)
           ·have h := ifT hb_57 h
            refine RunC.auX 1 ⟨[(139, .d (.bool true)), (140, .agg [.d (I r0_3_2.Top), .d (I r0_3_2.Bottom)])], [(1, .row 3 1 (List.map e3 [0])), (0, .var 34 [.d (I r0_3_2.Top), .d (I r0_3_2.Bottom)])], 2, Fr.emp, [], 0⟩ (by kernel_rfl) ?_
            obtain ⟨r0_13, hx_58, h⟩ := bsome h
            refine r_call rfl rfl (k60 (-200) 9 _ hx_58) rfl rfl ?_
            refine r_aeq rfl rfl rfl rfl rfl ft34 rfl rfl rfl ?_
            refine RunC.auX 2 ⟨[(0, .d (.bool (false != ((r0_3_2.Top == r0_13.Top) && ((r0_3_2.Bottom == r0_13.Bottom) && true)))))], [(1, .row 3 1 (List.map e3 [0])), (0, .var 34 [.d (I r0_3_2.Top), .d (I r0_3_2.Bottom)])], 2, Fr.emp, [], 0⟩ (by kernel_rfl) ?_
            refine RunC.fin ⟨[(0, .d (.bool (false != ((r0_3_2.Top == r0_13.Top) && ((r0_3_2.Bottom == r0_13.Bottom) && true)))))], [], 2, Fr.emp, [], 0⟩ (by kernel_rfl) (by kernel_rfl) ?_
            obtain rfl := Option.some.inj h
            exact hK_46 _ (Can.kp (by kernel_rfl))
           ·have h := ifF hb_57 h
            refine RunC.auX 5 ⟨[(0, .d (.bool false))], [(1, .row 3 1 (List.map e3 [0])), (0, .var 34 [.d (I r0_3_2.Top), .d (I r0_3_2.Bottom)])], 2, Fr.emp, [], 0⟩ (by kernel_rfl) ?_
            refine RunC.fin ⟨[(0, .d (.bool false))], [], 2, Fr.emp, [], 0⟩ (by kernel_rfl) (by kernel_rfl) ?_
            obtain rfl := Option.some.inj h
            exact hK_46 _ (Can.kp (by kernel_rfl))
          ·have h := ifF hb_56 h
           refine RunC.auX 8 ⟨[(0, .d (.bool false))], [(1, .row 3 1 (List.map e3 [0])), (0, .var 34 [.d (I r0_3_2.Top), .d (I r0_3_2.Bottom)])], 2, Fr.emp, [], 0⟩ (by kernel_rfl) ?_
           refine RunC.fin ⟨[(0, .d (.bool false))], [], 2, Fr.emp, [], 0⟩ (by kernel_rfl) (by kernel_rfl) ?_
           obtain rfl := Option.some.inj h
           exact hK_46 _ (Can.kp (by kernel_rfl))
         ·have h := ifF hb_55 h
          refine RunC.auX 11 ⟨[(0, .d (.bool false))], [(1, .row 3 1 (List.map e3 [0])), (0, .var 34 [.d (I r0_3_2.Top), .d (I r0_3_2.Bottom)])], 2, Fr.emp, [], 0⟩ (by kernel_rfl) ?_
          refine RunC.fin ⟨[(0, .d (.bool false))], [], 2, Fr.emp, [], 0⟩ (by kernel_rfl) (by kernel_rfl) ?_
          obtain rfl := Option.some.inj h
          exact hK_46 _ (Can.kp (by kernel_rfl))
        ·have h := ifF hb_53 h
         refine RunC.auX 16 ⟨[(0, .d (.bool false))], [(0, .var 34 [.d (I r0_3_2.Top), .d (I r0_3_2.Bottom)])], 1, Fr.emp, [], 0⟩ (by kernel_rfl) ?_
         refine RunC.fin ⟨[(0, .d (.bool false))], [], 1, Fr.emp, [], 0⟩ (by kernel_rfl) (by kernel_rfl) ?_
         obtain rfl := Option.some.inj h
         exact hK_46 _ (Can.kp (by kernel_rfl))
       ·have h := ifF hb_52 h
        refine RunC.auX 20 ⟨[(0, .d (.bool false))], [(0, .var 34 [.d (I r0_3_2.Top), .d (I r0_3_2.Bottom)])], 1, Fr.emp, [], 0⟩ (by kernel_rfl) ?_
        refine RunC.fin ⟨[(0, .d (.bool false))], [], 1, Fr.emp, [], 0⟩ (by kernel_rfl) (by kernel_rfl) ?_
        obtain rfl := Option.some.inj h
        exact hK_46 _ (Can.kp (by kernel_rfl))
      ·have h := ifF hb_51 h
       refine RunC.auX 24 ⟨[(0, .d (.bool false))], [(0, .var 34 [.d (I r0_3_2.Top), .d (I r0_3_2.Bottom)])], 1, Fr.emp, [], 0⟩ (by kernel_rfl) ?_
       refine RunC.fin ⟨[(0, .d (.bool false))], [], 1, Fr.emp, [], 0⟩ (by kernel_rfl) (by kernel_rfl) ?_
       obtain rfl := Option.some.inj h
       exact hK_46 _ (Can.kp (by kernel_rfl))
     ·have h := ifF hb_50 h
      refine RunC.auX 28 ⟨[(0, .d (.bool false))], [(0, .var 34 [.d (I r0_3_2.Top), .d (I r0_3_2.Bottom)])], 1, Fr.emp, [], 0⟩ (by kernel_rfl) ?_
      refine RunC.fin ⟨[(0, .d (.bool false))], [], 1, Fr.emp, [], 0⟩ (by kernel_rfl) (by kernel_rfl) ?_
      obtain rfl := Option.some.inj h
      exact hK_46 _ (Can.kp (by kernel_rfl))
    ·have h := ifF hb_49 h
     refine RunC.auX 32 ⟨[(0, .d (.bool false))], [(0, .var 34 [.d (I r0_3_2.Top), .d (I r0_3_2.Bottom)])], 1, Fr.emp, [], 0⟩ (by kernel_rfl) ?_
     refine RunC.fin ⟨[(0, .d (.bool false))], [], 1, Fr.emp, [], 0⟩ (by kernel_rfl) (by kernel_rfl) ?_
     obtain rfl := Option.some.inj h
     exact hK_46 _ (Can.kp (by kernel_rfl))
   ·have h := ifF hb_48 h
    refine RunC.auX 36 ⟨[(0, .d (.bool false))], [(0, .var 34 [.d (I r0_3_2.Top), .d (I r0_3_2.Bottom)])], 1, Fr.emp, [], 0⟩ (by kernel_rfl) ?_
    refine RunC.fin ⟨[(0, .d (.bool false))], [], 1, Fr.emp, [], 0⟩ (by kernel_rfl) (by kernel_rfl) ?_
    obtain rfl := Option.some.inj h
    exact hK_46 _ (Can.kp (by kernel_rfl))
  ·obtain rfl := Option.some.inj h
   exact AW.ret (hR_0 _ (retX (.cons (.tmp rfl) .nil) (.refl _) rfl (by kernel_rfl) (by kernel_rfl)))
def g92 (set_ : Int) (n : Int) : Option Bool := (must (decide (0 ≤ n))).bind fun _ => some (decide ((bAnd (shr64 set_ n) 1) = 1))
theorem k92 (set_ : Int) (n : Int) (r : Bool) (h : g92 set_ n = some r) : SCall Tryd.prog Gs 92 [.d (I set_), .d (I n)] [] 0 Fr.emp (.d (.bool r)) [] 0 Fr.emp := by
 unfold g92 at h
 refine SCall.mkK Tryd.func92 c92 rfl rfl (by kernel_rfl) (fun Q_0 hR_0 hN_0 => ?_)
 refine AW.sa fokW [] ⟨[(0, .d (I set_)), (1, .d (I n))], [], 0, Fr.emp, [], 0⟩ (by kernel_rfl) ?_
 refine AW.srwK (fun Q_1 hQ_1 => ?_)
 refine RW.au fokW 2 [] ⟨[(5, .d (I set_)), (6, .d (I n))], [], 0, Fr.emp, [], 0⟩ (by kernel_rfl) ?_
 obtain ⟨_, hv_2, h⟩ := bsome h
 refine RW.one fokW (r_sh trivial rfl rfl (shr64_ok (of_decide_eq_true (must_ok hv_2))) (r_end ?_))
 refine RW.au fokW 3 [] ⟨[(4, .d (.bool (decide ((bAnd (shr64 set_ n) 1) = 1))))], [], 0, Fr.emp, [], 0⟩ (by kernel_rfl) ?_
 refine RW.nil ?_
 refine hQ_1 _ ?_
 obtain rfl := Option.some.inj h
 exact AW.ret (hR_0 _ (retX (.cons (.tmp rfl) .nil) (.refl _) rfl (by kernel_rfl) (by kernel_rfl)))
def g53_2 (set_ : Int) : Int → (List Int) → Option (List Int) := fun n l => (g92 set_ n).bind fun r0 => bif r0 then ((appL 8 l [n]).bind fun l1 => some l1) else (some l)
def g53 (set_ : Int) (below : Int) : Option (List Int) := (must (decide (below ≤ 9223372036854775807))).bind fun _ => (forS (g53_2 set_) (((below : Int) - 0).toNat) 0 ([] : List Int)).bind fun l => some l
theorem k53 (set_ : Int) (below : Int) (r : (List Int)) (h : g53 set_ below = some r) : SCall Tryd.prog Gs 53 [.d (I set_), .d (I below)] [] 0 Fr.emp (.d (.sl 1 (List.map e3 r))) [] 0 Fr.emp := by
 unfold g53 at h
 refine SCall.mkK Tryd.func53 c53 rfl rfl (by kernel_rfl) (fun Q_0 hR_0 hN_0 => ?_)
 refine AW.sa fokW [] ⟨[(0, .d (I set_)), (1, .d (I below))], [], 0, Fr.emp, [], 0⟩ (by kernel_rfl) ?_
 refine AW.sa fokW [] ⟨[(0, .d (I set_)), (1, .d (I below)), (5, .own 0 (List.map e3 []).length)], [(0, .row 3 1 (List.map e3 []))], 1, Fr.emp, [], 0⟩ (by kernel_rfl) ?_
 refine AW.seqK (fun K_1 hK_1 => ?_)
 refine AW.sa fokW [] ⟨[(0, .d (I set_)), (1, .d (I below)), (5, .own 0 (List.map e3 []).length), (6, .d (I 0))], [(0, .row 3 1 (List.map e3 []))], 1, Fr.emp, [], 0⟩ (by kernel_rfl) ?_
 refine AW.block ?_
 obtain ⟨_, hN_2, h⟩ := bsome h
 have hN_2 := of_decide_eq_true (must_ok hN_2)
 obtain ⟨out_2, hx_2, h⟩ := bsome h
 refine AW.lpSK (fun (n : Int) (l : List Int) => ⟨[(0, .d (I set_)), (1, .d (I below)), (5, .own 0 (List.map e3 l).length), (6, .d (I n))], [(0, .row 3 1 (List.map e3 l))], 1, Fr.emp, [], 0⟩) (g53_2 set_) (below) hx_2 (Can.kp (by kernel_rfl)) (fun n l hi_2 hl_2 c_2 h K_2 hK_2 => ?_) (fun n l hi_2 hl_2 hout => ?_)
 ·unfold g53_2 at h
  refine AW.seqK (fun K_3 hK_3 => ?_)
  refine AW.sa fokW [] ⟨[(0, .d (I set_)), (1, .d (I below)), (5, .own 0 (List.map e3 l).length), (6, .d (I n)), (10, .d (.bool (decide (n < below))))], [(0, .row 3 1 (List.map e3 l))], 1, Fr.emp, [], 0⟩ (by kernel_rfl) ?_
  refine AW.cond rfl (fun hb_4 => ?_) (fun hb_4 => False.elim (by have := of_decide_eq_false hb_4; omega))
  refine AW.skip ?_
  refine hK_3 _ ?_
  refine AW.seqK (fun K_5 hK_5 => ?_)
  refine AW.block ?_
  refine AW.srwK (fun Q_6 hQ_6 => ?_)
  refine RW.au fokW 2 [] ⟨[(0, .d (I set_)), (1, .d (I below)), (5, .own 0 (List.map e3 l).length), (6, .d (I n)), (13, .d (I set_)), (14, .d (I n))], [(0, .row 3 1 (List.map e3 l))], 1, Fr.emp, [], 0⟩ (by kernel_rfl) ?_
  obtain ⟨r0, hx_7, h⟩ := bsome h
  refine RW.one fokW (r_call trivial rfl (k92 set_ n _ hx_7) rfl rfl (r_end ?_))
  refine RW.nil ?_
  refine hQ_6 _ ?_
  refine AW.cond rfl (fun hb_8 => ?_) (fun hb_8 => ?_)
  ·have h := ifT hb_8 h
   refine AW.rw ?_
   refine RW.au fokW 3 [] ⟨[(0, .d (I set_)), (1, .d (I below)), (6, .d (I n)), (16, .own 0 (List.map e3 l).length), (18, .own 1 (List.map e3 [n]).length)], [(1, .row 3 1 (List.map e3 [n])), (0, .row 3 1 (List.map e3 l))], 2, Fr.emp, [], 0⟩ (by kernel_rfl) ?_
   obtain ⟨l1, hv_10, h⟩ := bsome h
   refine RW.one fokW (r_apO trivial rfl rfl rfl rfl rfl rfl (apz hv_10 e3) (apr hv_10 e3) (r_end ?_))
   refine RW.au fokW 1 [] ⟨[(0, .d (I set_)), (1, .d (I below)), (5, .own 0 (List.map e3 l1).length), (6, .d (I n))], [(0, .row 3 1 (List.map e3 l1))], 2, Fr.emp, [], 0⟩ (by kernel_rfl) ?_
   refine RW.nil ?_
   refine hK_5 _ ?_
   refine AW.ra fokW [] ⟨[(0, .d (I set_)), (1, .d (I below)), (5, .own 0 (List.map e3 l1).length), (6, .d (I (wr (n + 1))))], [(0, .row 3 1 (List.map e3 l1))], 2, Fr.emp, [], 0⟩ (by kernel_rfl) ?_
   obtain rfl := Option.some.inj h
   have ew : wr (n + 1) = n + 1 := inext (N := below) (by omega) (by omega) (by omega)
   rw [ew]
   exact hK_2 _ (Can.kp (by kernel_rfl))
  ·have h := ifF hb_8 h
   refine AW.skip ?_
   refine hK_5 _ ?_
   refine AW.ra fokW [] ⟨[(0, .d (I set_)), (1, .d (I below)), (5, .own 0 (List.map e3 l).length), (6, .d (I (wr (n + 1))))], [(0, .row 3 1 (List.map e3 l))], 1, Fr.emp, [], 0⟩ (by kernel_rfl) ?_
   obtain rfl := Option.some.inj h
   have ew : wr (n + 1) = n + 1 := inext (N := below) (by omega) (by omega) (by omega)
   rw [ew]
   exact hK_2 _ (Can.kp (by kernel_rfl))
 ·subst hout
  refine AW.seqK (fun K_11 hK_11 => ?_)
  refine AW.sa fokW [] ⟨[(0, .d (I set_)), (1, .d (I below)), (5, .own 0 (List.map e3 l).length), (6, .d (I n)), (10, .d (.bool (decide (n < below))))], [(0, .row 3 1 (List.map e3 l))], 1, Fr.emp, [], 0⟩ (by kernel_rfl) ?_
  refine AW.cond rfl (fun hb_12 => False.elim (by have := of_decide_eq_true hb_12; omega)) (fun hb_12 => ?_)
  refine AW.exit ?_
  refine hK_1 _ ?_
  refine AW.sa fokW [] ⟨[(4, .own 0 (List.map e3 l).length)], [(0, .row 3 1 (List.map e3 l))], 1, Fr.emp, [], 0⟩ (by kernel_rfl) ?_
  obtain rfl := Option.some.inj h
  exact AW.ret (hR_0 _ (retX (.cons (.tmp rfl) .nil) (.own rfl rfl) rfl (by kernel_rfl) (by kernel_rfl)))
def g93_3 (l : (List Int)) (m : (List Int)) : Int → Option (Ctl (Int) (Ctl (Unit) (Ctl (Unit) (Bool)))) := fun  i => (bif (decide (i < (l.length : Int))) then (some (decide (i < (m.length : Int)))) else (some false)).bind fun v => bif v then ((ixL l i).bind fun p => (ixL m i).bind fun p1 => bif (decide (p ≠ p1)) then (some (.brk (.brk (.brk (decide (p < p1)))))) else (some (.next (wr (i + 1))))) else (some (.brk (.next ())))
def g93 (l : (List Int)) (m : (List Int)) : Option Bool := bindC (bindC (whileC (g93_3 l m) 1000 0 : Option (Ctl (Unit) (Ctl (Unit) (Bool)))) fun _ => some (.next ()) : Option (Ctl (Unit) (Bool))) fun _ => some (decide ((l.length : Int) < (m.length : Int)))
theorem k93 (l : (List Int)) (m : (List Int)) (r : Bool) (h : g93 l m = some r) : SCall Tryd.prog Gs 93 [.d (.sl 1 (List.map e3 l)), .d (.sl 1 (List.map e3 m))] [] 0 Fr.emp (.d (.bool r)) [] 0 Fr.emp := by
 unfold g93 at h
 refine SCall.mkK Tryd.func93 c93 rfl rfl (by kernel_rfl) (fun Q_0 hR_0 hN_0 => ?_)
 refine AW.sa fokW [] ⟨[(0, .d (.sl 1 (List.map e3 l))), (1, .d (.sl 1 (List.map e3 m)))], [], 0, Fr.emp, [], 0⟩ (by kernel_rfl) ?_
 obtain ⟨c_1, hx_1, hk_1⟩ := bsomeC h
 refine AW.jnK (fun (_ : Unit) => ⟨[(0, .d (.sl 1 (List.map e3 l))), (1, .d (.sl 1 (List.map e3 m)))], [], 0, Fr.emp, [], 0⟩) (c := c_1) (fun K_1 hK_1 => ?_) (fun j_1 hj_1 => ?_)
 ·have h := hx_1
  refine AW.sa fokW [] ⟨[(0, .d (.sl 1 (List.map e3 l))), (1, .d (.sl 1 (List.map e3 m))), (5, .d (I 0))], [], 0, Fr.emp, [], 0⟩ (by kernel_rfl) ?_
  obtain ⟨c_2, hx_2, hk_2⟩ := bsomeC h
  refine AW.jqK (fun (_ : Unit) => ⟨[(0, .d (.sl 1 (List.map e3 l))), (1, .d (.sl 1 (List.map e3 m)))], [], 0, Fr.emp, [], 0⟩) (c := c_2) (fun K_2 hK_2 => ?_) (fun j_2 hj_2 => ?_)
  ·have h := hx_2
   refine AW.block ?_
   refine AW.whK (fun (i : Int) => ⟨[(0, .d (.sl 1 (List.map e3 l))), (1, .d (.sl 1 (List.map e3 m))), (5, .d (I i))], [], 0, Fr.emp, [], 0⟩) (g93_3 l m) h (Can.kp (by kernel_rfl)) (fun i c_3 h hb_3 K_3 hK_3 => ?_)
   unfold g93_3 at h
   refine AW.seqK (fun K_4 hK_4 => ?_)
   refine AW.srwK (fun Q_5 hQ_5 => ?_)
   refine RW.au fokW 2 [] ⟨[(0, .d (.sl 1 (List.map e3 l))), (1, .d (.sl 1 (List.map e3 m))), (5, .d (I i)), (6, .d (I i)), (7, .d (.sl 1 (List.map e3 l)))], [], 0, Fr.emp, [], 0⟩ (by kernel_rfl) ?_
   refine RW.one fokW (r_lenX trivial rfl lenm (r_end ?_))
   refine RW.au fokW 2 [] ⟨[(0, .d (.sl 1 (List.map e3 l))), (1, .d (.sl 1 (List.map e3 m))), (5, .d (I i)), (10, .d (.bool (decide (i < (l.length : Int)))))], [], 0, Fr.emp, [], 0⟩ (by kernel_rfl) ?_
   obtain ⟨v, hx_6, h⟩ := bsome h
   refine RW.cut fokW 5 (⟨[(0, .d (.sl 1 (List.map e3 l))), (1, .d (.sl 1 (List.map e3 m))), (5, .d (I i)), (15, .d (.bool v))], [], 0, Fr.emp, [], 0⟩) ?_ ?_
   ·refine r_split 10 rfl (fun hb_7 => ?_) (fun hb_7 => ?_)
    ·have h := ifT hb_7 hx_6
     refine RunC.auX 2 ⟨[(0, .d (.sl 1 (List.map e3 l))), (1, .d (.sl 1 (List.map e3 m))), (5, .d (I i)), (10, .d (.bool true)), (11, .d (I i)), (12, .d (.sl 1 (List.map e3 m)))], [], 0, Fr.emp, [], 0⟩ (by kernel_rfl) ?_
     refine r_lenX rfl rfl lenm ?_
     refine RunC.auX 2 ⟨[(0, .d (.sl 1 (List.map e3 l))), (1, .d (.sl 1 (List.map e3 m))), (5, .d (I i)), (11, .d (I i)), (12, .d (.sl 1 (List.map e3 m))), (13, .d (I (m.length : Int))), (14, .d (.bool (decide (i < (m.length : Int))))), (15, .d (.bool (decide (i < (m.length : Int)))))], [], 0, Fr.emp, [], 0⟩ (by kernel_rfl) ?_
     obtain rfl := Option.some.inj h
     refine RunC.finJ (Can.kp (by kernel_rfl))
    ·have h := ifF hb_7 hx_6
     refine RunC.auX 5 ⟨[(0, .d (.sl 1 (List.map e3 l))), (1, .d (.sl 1 (List.map e3 m))), (5, .d (I i)), (11, .undef), (12, .undef), (13, .undef), (14, .undef), (15, .d (.bool false))], [], 0, Fr.emp, [], 0⟩ (by kernel_rfl) ?_
     obtain rfl := Option.some.inj h
     refine RunC.finJ (Can.kp (by kernel_rfl))
   ·refine RW.nil ?_
    refine hQ_5 _ ?_
    refine AW.cond rfl (fun hb_8 => ?_) (fun hb_8 => ?_)
    ·have h := ifT hb_8 h
     refine AW.skip ?_
     refine hK_4 _ ?_
     refine AW.seqK (fun K_9 hK_9 => ?_)
     refine AW.block ?_
     refine AW.sdrwK fokW (fun Q_10 hQ_10 => ?_)
     refine RunC.auX 2 ⟨[(0, .d (.sl 1 (List.map e3 l))), (1, .d (.sl 1 (List.map e3 m))), (5, .d (I i)), (18, .d (.sl 1 (List.map e3 l))), (19, .d (I i))], [], 0, Fr.emp, [], 0⟩ (by kernel_rfl) ?_
     obtain ⟨p, hv_11, h⟩ := bsome h
     refine r_iaD trivial rfl rfl (ixL_ok hv_11).1 (row := e3 p) (mapget (ixL_ok hv_11).2) ?_
     refine RunC.auX 3 ⟨[(0, .d (.sl 1 (List.map e3 l))), (1, .d (.sl 1 (List.map e3 m))), (5, .d (I i)), (21, .d (I p)), (22, .d (.sl 1 (List.map e3 m))), (23, .d (I i))], [], 0, Fr.emp, [], 0⟩ (by kernel_rfl) ?_
     obtain ⟨p1, hv_12, h⟩ := bsome h
     refine r_iaD trivial rfl rfl (ixL_ok hv_12).1 (row := e3 p1) (mapget (ixL_ok hv_12).2) ?_
     refine RunC.auX 2 ⟨[(0, .d (.sl 1 (List.map e3 l))), (1, .d (.sl 1 (List.map e3 m))), (5, .d (I i)), (26, .d (.bool (decide (p ≠ p1))))], [], 0, Fr.emp, [], 0⟩ (by kernel_rfl) ?_
     refine RunC.fin ⟨[(0, .d (.sl 1 (List.map e3 l))), (1, .d (.sl 1 (List.map e3 m))), (5, .d (I i)), (26, .d (.bool (decide (p ≠ p1))))], [], 0, Fr.emp, [], 0⟩ (by kernel_rfl) (by kernel_rfl) ?_
     refine hQ_10 _ ?_
     refine AW.cond rfl (fun hb_13 => ?_) (fun hb_13 => ?_)
     ·have h := ifT hb_13 h
      refine AW.sdrwK fokW (fun Q_14 hQ_14 => ?_)
      refine RunC.auX 2 ⟨[(1, .d (.sl 1 (List.map e3 m))), (5, .d (I i)), (27, .d (.sl 1 (List.map e3 l))), (28, .d (I i))], [], 0, Fr.emp, [], 0⟩ (by kernel_rfl) ?_
      refine r_iaD trivial rfl rfl (ixL_ok hv_11).1 (row := e3 p) (mapget (ixL_ok hv_11).2) ?_
      refine RunC.auX 3 ⟨[(30, .d (I p)), (31, .d (.sl 1 (List.map e3 m))), (32, .d (I i))], [], 0, Fr.emp, [], 0⟩ (by kernel_rfl) ?_
      refine r_iaD trivial rfl rfl (ixL_ok hv_12).1 (row := e3 p1) (mapget (ixL_ok hv_12).2) ?_
      refine RunC.auX 3 ⟨[(4, .d (.bool (decide (p < p1))))], [], 0, Fr.emp, [], 0⟩ (by kernel_rfl) ?_
      refine RunC.fin ⟨[(4, .d (.bool (decide (p < p1))))], [], 0, Fr.emp, [], 0⟩ (by kernel_rfl) (by kernel_rfl) ?_
      refine hQ_14 _ ?_
      obtain rfl := Option.some.inj h
      obtain rfl := hb_3 _ rfl
      obtain rfl := Aft.bk hk_2
      obtain rfl := Aft.bk hk_1
      exact AW.ret (hR_0 _ (retX (.cons (.tmp rfl) .nil) (.refl _) rfl (by kernel_rfl) (by kernel_rfl)))
     ·have h := ifF hb_13 h
      refine AW.skip ?_
      refine hK_9 _ ?_
      refine AW.ra fokW [] ⟨[(0, .d (.sl 1 (List.map e3 l))), (1, .d (.sl 1 (List.map e3 m))), (5, .d (I (wr (i + 1))))], [], 0, Fr.emp, [], 0⟩ (by kernel_rfl) ?_
      obtain rfl := Option.some.inj h
      exact hK_3 _ _ rfl (Can.kp (by kernel_rfl))
    ·have h := ifF hb_8 h
     refine AW.exit ?_
     obtain rfl := Option.some.inj h
     obtain rfl := hb_3 _ rfl
     exact hK_2 _ _ rfl (Can.kp (by kernel_rfl))
  ·subst hj_2
   have h := Aft.nx hk_2
   obtain rfl := Option.some.inj h
   exact hK_1 _ _ rfl (Can.kp (by kernel_rfl))
 ·subst hj_1
  have h := Aft.nx hk_1
  refine AW.srwK (fun Q_15 hQ_15 => ?_)
  refine RW.au fokW 1 [] ⟨[(1, .d (.sl 1 (List.map e3 m))), (36, .d (.sl 1 (List.map e3 l)))], [], 0, Fr.emp, [], 0⟩ (by kernel_rfl) ?_
  refine RW.one fokW (r_lenX trivial rfl lenm (r_end ?_))
  refine RW.au fokW 1 [] ⟨[(37, .d (I (l.length : Int))), (38, .d (.sl 1 (List.map e3 m)))], [], 0, Fr.emp, [], 0⟩ (by kernel_rfl) ?_
  refine RW.one fokW (r_lenX trivial rfl lenm (r_end ?_))
  refine RW.au fokW 2 [] ⟨[(4, .d (.bool (decide ((l.length : Int) < (m.length : Int)))))], [], 0, Fr.emp, [], 0⟩ (by kernel_rfl) ?_
  refine RW.nil ?_
  refine hQ_15 _ ?_
  obtain rfl := Option.some.inj h
  exact AW.ret (hR_0 _ (retX (.cons (.tmp rfl) .nil) (.refl _) rfl (by kernel_rfl) (by kernel_rfl)))
end Go.Proofs.Tz
namespace Go.Proofs.Tz
open Go Go.Abs Go.Proofs
def g54 (l : (List Int)) (m : (List Int)) : Option Bool := bif (decide ((l.length : Int) ≠ (m.length : Int))) then (some (decide ((l.length : Int) < (m.length : Int)))) else ((g93 l m).bind fun r0_1 => some r0_1)
theorem k54 (l : (List Int)) (m : (List Int)) (r : Bool) (h : g54 l m = some r) : SCall Tryd.prog Gs 54 [.d (.sl 1 (List.map e3 l)), .d (.sl 1 (List.map e3 m))] [] 0 Fr.emp (.d (.bool r)) [] 0 Fr.emp := by
 unfold g54 at h
 refine SCall.mkK Tryd.func54 c54 rfl rfl (by kernel_rfl) (fun Q_0 hR_0 hN_0 => ?_)
 refine AW.sa fokW [] ⟨[(0, .d (.sl 1 (List.map e3 l))), (1, .d (.sl 1 (List.map e3 m)))], [], 0, Fr.emp, [], 0⟩ (by kernel_rfl) ?_
 refine AW.seqK (fun K_1 hK_1 => ?_)
 refine AW.srwK (fun Q_2 hQ_2 => ?_)
 refine RW.au fokW 1 [] ⟨[(0, .d (.sl 1 (List.map e3 l))), (1, .d (.sl 1 (List.map e3 m))), (5, .d (.sl 1 (List.map e3 l)))], [], 0, Fr.emp, [], 0⟩ (by kernel_rfl) ?_
 refine RW.one fokW (r_lenX trivial rfl lenm (r_end ?_))
 refine RW.au fokW 1 [] ⟨[(0, .d (.sl 1 (List.map e3 l))), (1, .d (.sl 1 (List.map e3 m))), (6, .d (I (l.length : Int))), (7, .d (.sl 1 (List.map e3 m)))], [], 0, Fr.emp, [], 0⟩ (by kernel_rfl) ?_
 refine RW.one fokW (r_lenX trivial rfl lenm (r_end ?_))
 refine RW.au fokW 1 [] ⟨[(0, .d (.sl 1 (List.map e3 l))), (1, .d (.sl 1 (List.map e3 m))), (9, .d (.bool (decide ((l.length : Int) ≠ (m.length : Int)))))], [], 0, Fr.emp, [], 0⟩ (by kernel_rfl) ?_
 refine RW.nil ?_
 refine hQ_2 _ ?_
 refine AW.cond rfl (fun hb_3 => ?_) (fun hb_3 => ?_)
 ·have h := ifT hb_3 h
  refine AW.srwK (fun Q_4 hQ_4 => ?_)
  refine RW.au fokW 1 [] ⟨[(1, .d (.sl 1 (List.map e3 m))), (10, .d (.sl 1 (List.map e3 l)))], [], 0, Fr.emp, [], 0⟩ (by kernel_rfl) ?_
  refine RW.one fokW (r_lenX trivial rfl lenm (r_end ?_))
  refine RW.au fokW 1 [] ⟨[(11, .d (I (l.length : Int))), (12, .d (.sl 1 (List.map e3 m)))], [], 0, Fr.emp, [], 0⟩ (by kernel_rfl) ?_
  refine RW.one fokW (r_lenX trivial rfl lenm (r_end ?_))
  refine RW.au fokW 2 [] ⟨[(4, .d (.bool (decide ((l.length : Int) < (m.length : Int)))))], [], 0, Fr.emp, [], 0⟩ (by kernel_rfl) ?_
  refine RW.nil ?_
  refine hQ_4 _ ?_
  obtain rfl := Option.some.inj h
  exact AW.ret (hR_0 _ (retX (.cons (.tmp rfl) .nil) (.refl _) rfl (by kernel_rfl) (by kernel_rfl)))
 ·have h := ifF hb_3 h
  refine AW.skip ?_
  refine hK_1 _ ?_
  refine AW.srwK (fun Q_5 hQ_5 => ?_)
  refine RW.au fokW 2 [] ⟨[(15, .d (.sl 1 (List.map e3 l))), (16, .d (.sl 1 (List.map e3 m)))], [], 0, Fr.emp, [], 0⟩ (by kernel_rfl) ?_
  obtain ⟨r0_1, hx_6, h⟩ := bsome h
  refine RW.one fokW (r_call trivial rfl (k93 l m _ hx_6) rfl rfl (r_end ?_))
  refine RW.au fokW 1 [] ⟨[(4, .d (.bool r0_1))], [], 0, Fr.emp, [], 0⟩ (by kernel_rfl) ?_
  refine RW.nil ?_
  refine hQ_5 _ ?_
  obtain rfl := Option.some.inj h
  exact AW.ret (hR_0 _ (retX (.cons (.tmp rfl) .nil) (.refl _) rfl (by kernel_rfl) (by kernel_rfl)))
def g86_2 (set_ : Int) : Int → StandTrial → (List StandTrial) → Option (List StandTrial) := fun i p l => (g92 set_ i).bind fun r0 => bif (!r0) then ((appL 24 l [p]).bind fun l1 => some l1) else (some l)
def g86 (b : StandBook) (set_ : Int) : Option StandBook := (eachS (g86_2 set_) b.Trials 0 ([] : List StandTrial)).bind fun l => some (StandBook.mk b.Kind b.Front b.Back b.Radius b.Parts b.Along b.High b.Lean_ b.Limit l)
def g36_10 (b : StandBook) : Int → (List Int) → Option (List Int) := fun set_ best => (must (decide (0 ≤ (b.Trials.length : Int)))).bind fun _ => (g53 set_ (b.Trials.length : Int)).bind fun r0_1_1 => (g54 r0_1_1 best).bind fun r0_2 => (bif r0_2 then ((g86 b set_).bind fun r0_1_2 => (g62 r0_1_2).bind fun r0 => some (decide (0 < (r0.length : Int)))) else (some false)).bind fun v => bif v then (some r0_1_1) else (some best)
def g38_34 (b : StandBook) : (Bool × Int) → Option (Ctl (Bool × Int) (Bool)) := fun  (ok2, i) => (bif ok2 then (some (decide (i < (b.Parts.length : Int)))) else (some false)).bind fun v10 => bif v10 then ((ixL b.Parts i).bind fun p => (g87 p.Weight 1 99).bind fun r0_9 => (bif r0_9 then ((g43 p.Along (-60) 60).bind fun r0_10 => some r0_10) else (some false)).bind fun v11 => (bif v11 then ((g43 p.High 0 60).bind fun r0_11 => some r0_11) else (some false)).bind fun v12 => some (.next (v12, (wr (i + 1))))) else (some (.brk ok2))
def g38_53 (b : StandBook) : (Bool × Int) → Option (Ctl (Bool × Int) (Bool)) := fun  (ok5, i1) => (bif ok5 then (some (decide (i1 < (b.Trials.length : Int)))) else (some false)).bind fun v13 => bif v13 then ((ixL b.Trials i1).bind fun p1 => (g43 p1.Weight 1 b.Limit).bind fun r0_12 => bif r0_12 then ((g43 p1.Lean_ (wr (-b.Lean_)) b.Lean_).bind fun r0_13 => some (.next (r0_13, (wr (i1 + 1))))) else (some (.next (false, (wr (i1 + 1)))))) else (some (.brk ok5))
def g38 (b : StandBook) : Option Bool := (g18 b).bind fun A1 => (bif (decide (A1 = 0)) then ((g43 b.Kind 0 1).bind fun r0 => some r0) else (some false)).bind fun v => (bif v then ((g43 b.Front 1 60).bind fun r0_1 => some r0_1) else (some false)).bind fun v1 => (bif v1 then ((g43 b.Back 1 60).bind fun r0_2 => some r0_2) else (some false)).bind fun v2 => (bif v2 then ((g43 b.Radius 0 120).bind fun r0_3 => some r0_3) else (some false)).bind fun v3 => (bif v3 then ((g43 (b.Parts.length : Int) 1 4).bind fun r0_4 => some r0_4) else (some false)).bind fun v4 => (bif v4 then ((g43 b.Along (-60) 60).bind fun r0_5 => some r0_5) else (some false)).bind fun v5 => (bif v5 then ((g43 b.High 0 60).bind fun r0_6 => some r0_6) else (some false)).bind fun v6 => (bif v6 then ((g43 b.Lean_ 0 12).bind fun r0_7 => some r0_7) else (some false)).bind fun v7 => (bif v7 then ((g43 b.Limit 1 60).bind fun r0_8 => some r0_8) else (some false)).bind fun v8 => (bif v8 then (some (decide ((b.Trials.length : Int) ≤ 5))) else (some false)).bind fun v9 => ((whileC (g38_34 b) 1000 (v9, 0)).bind fun ok1 => some ok1).bind fun ok => ((whileC (g38_53 b) 1000 (ok, 0)).bind fun ok4 => some ok4).bind fun ok3 => some ok3
theorem k38 (b : StandBook) (r : Bool) (h : g38 b = some r) : SCall Tryd.prog Gs 38 [.agg (cv25 b)] [] 0 Fr.emp (.d (.bool r)) [] 0 Fr.emp := by
 unfold g38 at h
 refine SCall.mkK Tryd.func38 c38 rfl rfl (by kernel_rfl) (fun Q_0 hR_0 hN_0 => ?_)
 refine AW.sa fokW [] ⟨[(1, .ptr 0 0)], [(0, .var 25 (cv25 b))], 1, Fr.emp, [], 0⟩ (by kernel_rfl) ?_
 refine AW.srwK (fun Q_1 hQ_1 => ?_)
 refine RW.au fokW 1 [] ⟨[(1, .ptr 0 0), (7, .agg (cv25 b))], [(0, .var 25 (cv25 b))], 1, Fr.emp, [], 0⟩ (by kernel_rfl) ?_
 obtain ⟨A1, hx_2, h⟩ := bsome h
 refine RW.one fokW (r_call trivial rfl (k18 b _ hx_2) rfl rfl (r_end ?_))
 refine RW.au fokW 2 [] ⟨[(1, .ptr 0 0), (10, .d (.bool (decide (A1 = 0))))], [(0, .var 25 (cv25 b))], 1, Fr.emp, [], 0⟩ (by kernel_rfl) ?_
 obtain ⟨v, hx_3, h⟩ := bsome h
 refine RW.cut fokW 4 (⟨[(1, .ptr 0 0), (14, .d (.bool v))], [(0, .var 25 (cv25 b))], 1, Fr.emp, [], 0⟩) ?_ ?_
 ·refine r_split 10 rfl (fun hb_5 => ?_) (fun hb_5 => ?_)
  ·have h := ifT hb_5 hx_3
   refine RunC.auX 2 ⟨[(1, .ptr 0 0), (10, .d (.bool true)), (12, .d (I b.Kind))], [(0, .var 25 (cv25 b))], 1, Fr.emp, [], 0⟩ (by kernel_rfl) ?_
   obtain ⟨r0, hx_4, h⟩ := bsome h
   refine r_call rfl rfl (k43 b.Kind 0 1 _ hx_4) rfl rfl ?_
   refine RunC.auX 1 ⟨[(1, .ptr 0 0), (14, .d (.bool r0))], [(0, .var 25 (cv25 b))], 1, Fr.emp, [], 0⟩ (by kernel_rfl) ?_
   obtain rfl := Option.some.inj h
   refine RunC.finJ (Can.kp (by kernel_rfl))
  ·have h := ifF hb_5 hx_3
   refine RunC.auX 4 ⟨[(1, .ptr 0 0), (14, .d (.bool false))], [(0, .var 25 (cv25 b))], 1, Fr.emp, [], 0⟩ (by kernel_rfl) ?_
   obtain rfl := Option.some.inj h
   refine RunC.finJ (Can.kp (by kernel_rfl))
 ·refine RW.au fokW 1 [] ⟨[(1, .ptr 0 0), (15, .d (.bool v))], [(0, .var 25 (cv25 b))], 1, Fr.emp, [], 0⟩ (by kernel_rfl) ?_
  obtain ⟨v1, hx_6, h⟩ := bsome h
  refine RW.cut fokW 4 (⟨[(1, .ptr 0 0), (19, .d (.bool v1))], [(0, .var 25 (cv25 b))], 1, Fr.emp, [], 0⟩) ?_ ?_
  ·refine r_split 15 rfl (fun hb_8 => ?_) (fun hb_8 => ?_)
   ·have h := ifT hb_8 hx_6
    refine RunC.auX 2 ⟨[(1, .ptr 0 0), (15, .d (.bool true)), (17, .d (I b.Front))], [(0, .var 25 (cv25 b))], 1, Fr.emp, [], 0⟩ (by kernel_rfl) ?_
    obtain ⟨r0_1, hx_7, h⟩ := bsome h
    refine r_call rfl rfl (k43 b.Front 1 60 _ hx_7) rfl rfl ?_
    refine RunC.auX 1 ⟨[(1, .ptr 0 0), (19, .d (.bool r0_1))], [(0, .var 25 (cv25 b))], 1, Fr.emp, [], 0⟩ (by kernel_rfl) ?_
    obtain rfl := Option.some.inj h
    refine RunC.finJ (Can.kp (by kernel_rfl))
   ·have h := ifF hb_8 hx_6
    refine RunC.auX 4 ⟨[(1, .ptr 0 0), (19, .d (.bool false))], [(0, .var 25 (cv25 b))], 1, Fr.emp, [], 0⟩ (by kernel_rfl) ?_
    obtain rfl := Option.some.inj h
    refine RunC.finJ (Can.kp (by kernel_rfl))
  ·refine RW.au fokW 1 [] ⟨[(1, .ptr 0 0), (20, .d (.bool v1))], [(0, .var 25 (cv25 b))], 1, Fr.emp, [], 0⟩ (by kernel_rfl) ?_
   obtain ⟨v2, hx_9, h⟩ := bsome h
   refine RW.cut fokW 4 (⟨[(1, .ptr 0 0), (24, .d (.bool v2))], [(0, .var 25 (cv25 b))], 1, Fr.emp, [], 0⟩) ?_ ?_
   ·refine r_split 20 rfl (fun hb_11 => ?_) (fun hb_11 => ?_)
    ·have h := ifT hb_11 hx_9
     refine RunC.auX 2 ⟨[(1, .ptr 0 0), (20, .d (.bool true)), (22, .d (I b.Back))], [(0, .var 25 (cv25 b))], 1, Fr.emp, [], 0⟩ (by kernel_rfl) ?_
     obtain ⟨r0_2, hx_10, h⟩ := bsome h
     refine r_call rfl rfl (k43 b.Back 1 60 _ hx_10) rfl rfl ?_
     refine RunC.auX 1 ⟨[(1, .ptr 0 0), (24, .d (.bool r0_2))], [(0, .var 25 (cv25 b))], 1, Fr.emp, [], 0⟩ (by kernel_rfl) ?_
     obtain rfl := Option.some.inj h
     refine RunC.finJ (Can.kp (by kernel_rfl))
    ·have h := ifF hb_11 hx_9
     refine RunC.auX 4 ⟨[(1, .ptr 0 0), (24, .d (.bool false))], [(0, .var 25 (cv25 b))], 1, Fr.emp, [], 0⟩ (by kernel_rfl) ?_
     obtain rfl := Option.some.inj h
     refine RunC.finJ (Can.kp (by kernel_rfl))
   ·refine RW.au fokW 1 [] ⟨[(1, .ptr 0 0), (25, .d (.bool v2))], [(0, .var 25 (cv25 b))], 1, Fr.emp, [], 0⟩ (by kernel_rfl) ?_
    obtain ⟨v3, hx_12, h⟩ := bsome h
    refine RW.cut fokW 4 (⟨[(1, .ptr 0 0), (29, .d (.bool v3))], [(0, .var 25 (cv25 b))], 1, Fr.emp, [], 0⟩) ?_ ?_
    ·refine r_split 25 rfl (fun hb_14 => ?_) (fun hb_14 => ?_)
     ·have h := ifT hb_14 hx_12
      refine RunC.auX 2 ⟨[(1, .ptr 0 0), (25, .d (.bool true)), (27, .d (I b.Radius))], [(0, .var 25 (cv25 b))], 1, Fr.emp, [], 0⟩ (by kernel_rfl) ?_
      obtain ⟨r0_3, hx_13, h⟩ := bsome h
      refine r_call rfl rfl (k43 b.Radius 0 120 _ hx_13) rfl rfl ?_
      refine RunC.auX 1 ⟨[(1, .ptr 0 0), (29, .d (.bool r0_3))], [(0, .var 25 (cv25 b))], 1, Fr.emp, [], 0⟩ (by kernel_rfl) ?_
      obtain rfl := Option.some.inj h
      refine RunC.finJ (Can.kp (by kernel_rfl))
     ·have h := ifF hb_14 hx_12
      refine RunC.auX 4 ⟨[(1, .ptr 0 0), (29, .d (.bool false))], [(0, .var 25 (cv25 b))], 1, Fr.emp, [], 0⟩ (by kernel_rfl) ?_
      obtain rfl := Option.some.inj h
      refine RunC.finJ (Can.kp (by kernel_rfl))
    ·refine RW.au fokW 1 [] ⟨[(1, .ptr 0 0), (30, .d (.bool v3))], [(0, .var 25 (cv25 b))], 1, Fr.emp, [], 0⟩ (by kernel_rfl) ?_
     obtain ⟨v4, hx_15, h⟩ := bsome h
     refine RW.cut fokW 5 (⟨[(1, .ptr 0 0), (35, .d (.bool v4))], [(0, .var 25 (cv25 b))], 1, Fr.emp, [], 0⟩) ?_ ?_
     ·refine r_split 30 rfl (fun hb_17 => ?_) (fun hb_17 => ?_)
      ·have h := ifT hb_17 hx_15
       refine RunC.auX 2 ⟨[(1, .ptr 0 0), (30, .d (.bool true)), (32, .d (.sl 4 (List.map e70 b.Parts)))], [(0, .var 25 (cv25 b))], 1, Fr.emp, [], 0⟩ (by kernel_rfl) ?_
       refine r_lenX rfl rfl lenm ?_
       obtain ⟨r0_4, hx_16, h⟩ := bsome h
       refine r_call rfl rfl (k43 (b.Parts.length : Int) 1 4 _ hx_16) rfl rfl ?_
       refine RunC.auX 1 ⟨[(1, .ptr 0 0), (35, .d (.bool r0_4))], [(0, .var 25 (cv25 b))], 1, Fr.emp, [], 0⟩ (by kernel_rfl) ?_
       obtain rfl := Option.some.inj h
       refine RunC.finJ (Can.kp (by kernel_rfl))
      ·have h := ifF hb_17 hx_15
       refine RunC.auX 5 ⟨[(1, .ptr 0 0), (35, .d (.bool false))], [(0, .var 25 (cv25 b))], 1, Fr.emp, [], 0⟩ (by kernel_rfl) ?_
       obtain rfl := Option.some.inj h
       refine RunC.finJ (Can.kp (by kernel_rfl))
     ·refine RW.au fokW 1 [] ⟨[(1, .ptr 0 0), (36, .d (.bool v4))], [(0, .var 25 (cv25 b))], 1, Fr.emp, [], 0⟩ (by kernel_rfl) ?_
      obtain ⟨v5, hx_18, h⟩ := bsome h
      refine RW.cut fokW 4 (⟨[(1, .ptr 0 0), (40, .d (.bool v5))], [(0, .var 25 (cv25 b))], 1, Fr.emp, [], 0⟩) ?_ ?_
      ·refine r_split 36 rfl (fun hb_20 => ?_) (fun hb_20 => ?_)
       ·have h := ifT hb_20 hx_18
        refine RunC.auX 2 ⟨[(1, .ptr 0 0), (36, .d (.bool true)), (38, .d (I b.Along))], [(0, .var 25 (cv25 b))], 1, Fr.emp, [], 0⟩ (by kernel_rfl) ?_
        obtain ⟨r0_5, hx_19, h⟩ := bsome h
        refine r_call rfl rfl (k43 b.Along (-60) 60 _ hx_19) rfl rfl ?_
        refine RunC.auX 1 ⟨[(1, .ptr 0 0), (40, .d (.bool r0_5))], [(0, .var 25 (cv25 b))], 1, Fr.emp, [], 0⟩ (by kernel_rfl) ?_
        obtain rfl := Option.some.inj h
        refine RunC.finJ (Can.kp (by kernel_rfl))
       ·have h := ifF hb_20 hx_18
        refine RunC.auX 4 ⟨[(1, .ptr 0 0), (40, .d (.bool false))], [(0, .var 25 (cv25 b))], 1, Fr.emp, [], 0⟩ (by kernel_rfl) ?_
        obtain rfl := Option.some.inj h
        refine RunC.finJ (Can.kp (by kernel_rfl))
      ·refine RW.au fokW 1 [] ⟨[(1, .ptr 0 0), (41, .d (.bool v5))], [(0, .var 25 (cv25 b))], 1, Fr.emp, [], 0⟩ (by kernel_rfl) ?_
       obtain ⟨v6, hx_21, h⟩ := bsome h
       refine RW.cut fokW 4 (⟨[(1, .ptr 0 0), (45, .d (.bool v6))], [(0, .var 25 (cv25 b))], 1, Fr.emp, [], 0⟩) ?_ ?_
       ·refine r_split 41 rfl (fun hb_23 => ?_) (fun hb_23 => ?_)
        ·have h := ifT hb_23 hx_21
         refine RunC.auX 2 ⟨[(1, .ptr 0 0), (41, .d (.bool true)), (43, .d (I b.High))], [(0, .var 25 (cv25 b))], 1, Fr.emp, [], 0⟩ (by kernel_rfl) ?_
         obtain ⟨r0_6, hx_22, h⟩ := bsome h
         refine r_call rfl rfl (k43 b.High 0 60 _ hx_22) rfl rfl ?_
         refine RunC.auX 1 ⟨[(1, .ptr 0 0), (45, .d (.bool r0_6))], [(0, .var 25 (cv25 b))], 1, Fr.emp, [], 0⟩ (by kernel_rfl) ?_
         obtain rfl := Option.some.inj h
         refine RunC.finJ (Can.kp (by kernel_rfl))
        ·have h := ifF hb_23 hx_21
         refine RunC.auX 4 ⟨[(1, .ptr 0 0), (45, .d (.bool false))], [(0, .var 25 (cv25 b))], 1, Fr.emp, [], 0⟩ (by kernel_rfl) ?_
         obtain rfl := Option.some.inj h
         refine RunC.finJ (Can.kp (by kernel_rfl))
       ·refine RW.au fokW 1 [] ⟨[(1, .ptr 0 0), (46, .d (.bool v6))], [(0, .var 25 (cv25 b))], 1, Fr.emp, [], 0⟩ (by kernel_rfl) ?_
        obtain ⟨v7, hx_24, h⟩ := bsome h
        refine RW.cut fokW 4 (⟨[(1, .ptr 0 0), (50, .d (.bool v7))], [(0, .var 25 (cv25 b))], 1, Fr.emp, [], 0⟩) ?_ ?_
        ·refine r_split 46 rfl (fun hb_26 => ?_) (fun hb_26 => ?_)
         ·have h := ifT hb_26 hx_24
          refine RunC.auX 2 ⟨[(1, .ptr 0 0), (46, .d (.bool true)), (48, .d (I b.Lean_))], [(0, .var 25 (cv25 b))], 1, Fr.emp, [], 0⟩ (by kernel_rfl) ?_
          obtain ⟨r0_7, hx_25, h⟩ := bsome h
          refine r_call rfl rfl (k43 b.Lean_ 0 12 _ hx_25) rfl rfl ?_
          refine RunC.auX 1 ⟨[(1, .ptr 0 0), (50, .d (.bool r0_7))], [(0, .var 25 (cv25 b))], 1, Fr.emp, [], 0⟩ (by kernel_rfl) ?_
          obtain rfl := Option.some.inj h
          refine RunC.finJ (Can.kp (by kernel_rfl))
         ·have h := ifF hb_26 hx_24
          refine RunC.auX 4 ⟨[(1, .ptr 0 0), (50, .d (.bool false))], [(0, .var 25 (cv25 b))], 1, Fr.emp, [], 0⟩ (by kernel_rfl) ?_
          obtain rfl := Option.some.inj h
          refine RunC.finJ (Can.kp (by kernel_rfl))
        ·refine RW.au fokW 1 [] ⟨[(1, .ptr 0 0), (51, .d (.bool v7))], [(0, .var 25 (cv25 b))], 1, Fr.emp, [], 0⟩ (by kernel_rfl) ?_
         obtain ⟨v8, hx_27, h⟩ := bsome h
         refine RW.cut fokW 4 (⟨[(1, .ptr 0 0), (55, .d (.bool v8))], [(0, .var 25 (cv25 b))], 1, Fr.emp, [], 0⟩) ?_ ?_
         ·refine r_split 51 rfl (fun hb_29 => ?_) (fun hb_29 => ?_)
          ·have h := ifT hb_29 hx_27
           refine RunC.auX 2 ⟨[(1, .ptr 0 0), (51, .d (.bool true)), (53, .d (I b.Limit))], [(0, .var 25 (cv25 b))], 1, Fr.emp, [], 0⟩ (by kernel_rfl) ?_
           obtain ⟨r0_8, hx_28, h⟩ := bsome h
           refine r_call rfl rfl (k43 b.Limit 1 60 _ hx_28) rfl rfl ?_
           refine RunC.auX 1 ⟨[(1, .ptr 0 0), (55, .d (.bool r0_8))], [(0, .var 25 (cv25 b))], 1, Fr.emp, [], 0⟩ (by kernel_rfl) ?_
           obtain rfl := Option.some.inj h
           refine RunC.finJ (Can.kp (by kernel_rfl))
          ·have h := ifF hb_29 hx_27
           refine RunC.auX 4 ⟨[(1, .ptr 0 0), (55, .d (.bool false))], [(0, .var 25 (cv25 b))], 1, Fr.emp, [], 0⟩ (by kernel_rfl) ?_
           obtain rfl := Option.some.inj h
           refine RunC.finJ (Can.kp (by kernel_rfl))
         ·refine RW.au fokW 1 [] ⟨[(1, .ptr 0 0), (56, .d (.bool v8))], [(0, .var 25 (cv25 b))], 1, Fr.emp, [], 0⟩ (by kernel_rfl) ?_
          obtain ⟨v9, hx_30, h⟩ := bsome h
          refine RW.cut fokW 5 (⟨[(1, .ptr 0 0), (61, .d (.bool v9))], [(0, .var 25 (cv25 b))], 1, Fr.emp, [], 0⟩) ?_ ?_
          ·refine r_split 56 rfl (fun hb_31 => ?_) (fun hb_31 => ?_)
           ·have h := ifT hb_31 hx_30
            refine RunC.auX 2 ⟨[(1, .ptr 0 0), (56, .d (.bool true)), (58, .d (.sl 3 (List.map e65 b.Trials)))], [(0, .var 25 (cv25 b))], 1, Fr.emp, [], 0⟩ (by kernel_rfl) ?_
            refine r_lenX rfl rfl lenm ?_
            refine RunC.auX 2 ⟨[(1, .ptr 0 0), (61, .d (.bool (decide ((b.Trials.length : Int) ≤ 5))))], [(0, .var 25 (cv25 b))], 1, Fr.emp, [], 0⟩ (by kernel_rfl) ?_
            obtain rfl := Option.some.inj h
            refine RunC.finJ (Can.kp (by kernel_rfl))
           ·have h := ifF hb_31 hx_30
            refine RunC.auX 5 ⟨[(1, .ptr 0 0), (61, .d (.bool false))], [(0, .var 25 (cv25 b))], 1, Fr.emp, [], 0⟩ (by kernel_rfl) ?_
            obtain rfl := Option.some.inj h
            refine RunC.finJ (Can.kp (by kernel_rfl))
          ·refine RW.au fokW 1 [] ⟨[(1, .ptr 0 0), (3, .d (.bool v9))], [(0, .var 25 (cv25 b))], 1, Fr.emp, [], 0⟩ (by kernel_rfl) ?_
           refine RW.nil ?_
           refine hQ_1 _ ?_
           obtain ⟨ok, hx_32, h⟩ := bsome h
           refine AW.jnSK (fun (ok : Bool) => ⟨[(1, .ptr 0 0), (3, .d (.bool ok))], [(0, .var 25 (cv25 b))], 1, Fr.emp, [], 0⟩) (c := ok) (fun K_32 hK_32 => ?_) ?_
           ·have h := hx_32
            refine AW.sa fokW [] ⟨[(1, .ptr 0 0), (3, .d (.bool v9)), (4, .d (I 0))], [(0, .var 25 (cv25 b))], 1, Fr.emp, [], 0⟩ (by kernel_rfl) ?_
            obtain ⟨ok1, hx_33, h⟩ := bsome h
            refine AW.jqSK (fun (ok1 : Bool) => ⟨[(1, .ptr 0 0), (3, .d (.bool ok1))], [(0, .var 25 (cv25 b))], 1, Fr.emp, [], 0⟩) (c := ok1) (fun K_33 hK_33 => ?_) ?_
            ·have h := hx_33
             refine AW.block ?_
             refine AW.whK (fun (⟨ok2, i⟩ : Bool × Int) => ⟨[(1, .ptr 0 0), (3, .d (.bool ok2)), (4, .d (I i))], [(0, .var 25 (cv25 b))], 1, Fr.emp, [], 0⟩) (g38_34 b) h (Can.kp (by kernel_rfl)) (fun s_34 c_34 h hb_34 K_34 hK_34 => ?_)
             obtain ⟨ok2, i⟩ := s_34
             unfold g38_34 at h
             refine AW.seqK (fun K_35 hK_35 => ?_)
             refine AW.srwK (fun Q_36 hQ_36 => ?_)
             refine RW.au fokW 2 [] ⟨[(1, .ptr 0 0), (3, .d (.bool ok2)), (4, .d (I i)), (63, .d (.bool ok2))], [(0, .var 25 (cv25 b))], 1, Fr.emp, [], 0⟩ (by kernel_rfl) ?_
             obtain ⟨v10, hx_37, h⟩ := bsome h
             refine RW.cut fokW 6 (⟨[(1, .ptr 0 0), (3, .d (.bool ok2)), (4, .d (I i)), (69, .d (.bool v10))], [(0, .var 25 (cv25 b))], 1, Fr.emp, [], 0⟩) ?_ ?_
             ·refine r_split 63 rfl (fun hb_38 => ?_) (fun hb_38 => ?_)
              ·have h := ifT hb_38 hx_37
               refine RunC.auX 3 ⟨[(1, .ptr 0 0), (3, .d (.bool ok2)), (4, .d (I i)), (63, .d (.bool true)), (64, .d (I i)), (65, .ptr 0 4), (66, .d (.sl 4 (List.map e70 b.Parts)))], [(0, .var 25 (cv25 b))], 1, Fr.emp, [], 0⟩ (by kernel_rfl) ?_
               refine r_lenX rfl rfl lenm ?_
               refine RunC.auX 2 ⟨[(1, .ptr 0 0), (3, .d (.bool ok2)), (4, .d (I i)), (64, .d (I i)), (65, .ptr 0 4), (66, .d (.sl 4 (List.map e70 b.Parts))), (67, .d (I (b.Parts.length : Int))), (68, .d (.bool (decide (i < (b.Parts.length : Int))))), (69, .d (.bool (decide (i < (b.Parts.length : Int)))))], [(0, .var 25 (cv25 b))], 1, Fr.emp, [], 0⟩ (by kernel_rfl) ?_
               obtain rfl := Option.some.inj h
               refine RunC.finJ (Can.kp (by kernel_rfl))
              ·have h := ifF hb_38 hx_37
               refine RunC.auX 6 ⟨[(1, .ptr 0 0), (3, .d (.bool ok2)), (4, .d (I i)), (64, .undef), (65, .undef), (66, .undef), (67, .undef), (68, .undef), (69, .d (.bool false))], [(0, .var 25 (cv25 b))], 1, Fr.emp, [], 0⟩ (by kernel_rfl) ?_
               obtain rfl := Option.some.inj h
               refine RunC.finJ (Can.kp (by kernel_rfl))
             ·refine RW.nil ?_
              refine hQ_36 _ ?_
              refine AW.cond rfl (fun hb_39 => ?_) (fun hb_39 => ?_)
              ·have h := ifT hb_39 h
               refine AW.skip ?_
               refine hK_35 _ ?_
               refine AW.seqK (fun K_40 hK_40 => ?_)
               refine AW.block ?_
               refine AW.srwK (fun Q_41 hQ_41 => ?_)
               refine RW.au fokW 3 [] ⟨[(1, .ptr 0 0), (4, .d (I i)), (73, .d (.sl 4 (List.map e70 b.Parts))), (74, .d (I i))], [(0, .var 25 (cv25 b))], 1, Fr.emp, [], 0⟩ (by kernel_rfl) ?_
               obtain ⟨p, hv_42, h⟩ := bsome h
               refine RW.one fokW (r_iaD trivial rfl rfl (ixL_ok hv_42).1 (row := e70 p) (mapget (ixL_ok hv_42).2) (r_end ?_))
               refine RW.au fokW 3 [] ⟨[(1, .ptr 0 0), (4, .d (I i)), (5, .ptr 1 0)], [(1, .var 70 (cv70 p)), (0, .var 25 (cv25 b))], 2, Fr.emp, [], 0⟩ (by kernel_rfl) ?_
               refine RW.nil ?_
               refine hQ_41 _ ?_
               refine AW.rw ?_
               refine RW.au fokW 2 [] ⟨[(1, .ptr 0 0), (4, .d (I i)), (5, .ptr 1 0), (78, .agg [.d (I p.Weight.Low), .d (I p.Weight.High)])], [(1, .var 70 (cv70 p)), (0, .var 25 (cv25 b))], 2, Fr.emp, [], 0⟩ (by kernel_rfl) ?_
               obtain ⟨r0_9, hx_44, h⟩ := bsome h
               refine RW.one fokW (r_call trivial rfl (k87 p.Weight 1 99 _ hx_44) rfl rfl (r_end ?_))
               refine RW.au fokW 1 [] ⟨[(1, .ptr 0 0), (4, .d (I i)), (5, .ptr 1 0), (80, .d (.bool r0_9))], [(1, .var 70 (cv70 p)), (0, .var 25 (cv25 b))], 2, Fr.emp, [], 0⟩ (by kernel_rfl) ?_
               obtain ⟨v11, hx_45, h⟩ := bsome h
               refine RW.cut fokW 4 (⟨[(1, .ptr 0 0), (4, .d (I i)), (5, .ptr 1 0), (84, .d (.bool v11))], [(1, .var 70 (cv70 p)), (0, .var 25 (cv25 b))], 2, Fr.emp, [], 0⟩) ?_ ?_
               ·refine r_split 80 rfl (fun hb_47 => ?_) (fun hb_47 => ?_)
                ·have h := ifT hb_47 hx_45
                 refine RunC.auX 2 ⟨[(1, .ptr 0 0), (4, .d (I i)), (5, .ptr 1 0), (80, .d (.bool true)), (81, .ptr 1 2), (82, .d (I p.Along))], [(1, .var 70 (cv70 p)), (0, .var 25 (cv25 b))], 2, Fr.emp, [], 0⟩ (by kernel_rfl) ?_
                 obtain ⟨r0_10, hx_46, h⟩ := bsome h
                 refine r_call rfl rfl (k43 p.Along (-60) 60 _ hx_46) rfl rfl ?_
                 refine RunC.auX 1 ⟨[(1, .ptr 0 0), (4, .d (I i)), (5, .ptr 1 0), (81, .ptr 1 2), (82, .d (I p.Along)), (83, .d (.bool r0_10)), (84, .d (.bool r0_10))], [(1, .var 70 (cv70 p)), (0, .var 25 (cv25 b))], 2, Fr.emp, [], 0⟩ (by kernel_rfl) ?_
                 obtain rfl := Option.some.inj h
                 refine RunC.finJ (Can.kp (by kernel_rfl))
                ·have h := ifF hb_47 hx_45
                 refine RunC.auX 4 ⟨[(1, .ptr 0 0), (4, .d (I i)), (5, .ptr 1 0), (81, .undef), (82, .undef), (83, .undef), (84, .d (.bool false))], [(1, .var 70 (cv70 p)), (0, .var 25 (cv25 b))], 2, Fr.emp, [], 0⟩ (by kernel_rfl) ?_
                 obtain rfl := Option.some.inj h
                 refine RunC.finJ (Can.kp (by kernel_rfl))
               ·refine RW.au fokW 1 [] ⟨[(1, .ptr 0 0), (4, .d (I i)), (5, .ptr 1 0), (85, .d (.bool v11))], [(1, .var 70 (cv70 p)), (0, .var 25 (cv25 b))], 2, Fr.emp, [], 0⟩ (by kernel_rfl) ?_
                obtain ⟨v12, hx_48, h⟩ := bsome h
                refine RW.cut fokW 4 (⟨[(1, .ptr 0 0), (4, .d (I i)), (89, .d (.bool v12))], [(0, .var 25 (cv25 b))], 1, Fr.emp, [], 0⟩) ?_ ?_
                ·refine r_split 85 rfl (fun hb_50 => ?_) (fun hb_50 => ?_)
                 ·have h := ifT hb_50 hx_48
                  refine RunC.auX 2 ⟨[(1, .ptr 0 0), (4, .d (I i)), (85, .d (.bool true)), (86, .ptr 1 3), (87, .d (I p.High))], [(1, .var 70 (cv70 p)), (0, .var 25 (cv25 b))], 2, Fr.emp, [], 0⟩ (by kernel_rfl) ?_
                  obtain ⟨r0_11, hx_49, h⟩ := bsome h
                  refine r_call rfl rfl (k43 p.High 0 60 _ hx_49) rfl rfl ?_
                  refine RunC.auX 1 ⟨[(1, .ptr 0 0), (4, .d (I i)), (86, .ptr 1 3), (87, .d (I p.High)), (88, .d (.bool r0_11)), (89, .d (.bool r0_11))], [(1, .var 70 (cv70 p)), (0, .var 25 (cv25 b))], 2, Fr.emp, [], 0⟩ (by kernel_rfl) ?_
                  obtain rfl := Option.some.inj h
                  refine RunC.finJ (Can.kp (by kernel_rfl))
                 ·have h := ifF hb_50 hx_48
                  refine RunC.auX 4 ⟨[(1, .ptr 0 0), (4, .d (I i)), (86, .undef), (87, .undef), (88, .undef), (89, .d (.bool false))], [(1, .var 70 (cv70 p)), (0, .var 25 (cv25 b))], 2, Fr.emp, [], 0⟩ (by kernel_rfl) ?_
                  obtain rfl := Option.some.inj h
                  refine RunC.finJ (Can.kp (by kernel_rfl))
                ·refine RW.au fokW 1 [] ⟨[(1, .ptr 0 0), (3, .d (.bool v12)), (4, .d (I i))], [(0, .var 25 (cv25 b))], 1, Fr.emp, [], 0⟩ (by kernel_rfl) ?_
                 refine RW.nil ?_
                 refine hK_40 _ ?_
                 refine AW.ra fokW [] ⟨[(1, .ptr 0 0), (3, .d (.bool v12)), (4, .d (I (wr (i + 1))))], [(0, .var 25 (cv25 b))], 1, Fr.emp, [], 0⟩ (by kernel_rfl) ?_
                 obtain rfl := Option.some.inj h
                 exact hK_34 _ _ rfl (Can.kp (by kernel_rfl))
              ·have h := ifF hb_39 h
               refine AW.exit ?_
               obtain rfl := Option.some.inj h
               obtain rfl := hb_34 _ rfl
               exact hK_33 _ (Can.kp (by kernel_rfl))
            ·obtain rfl := Option.some.inj h
             exact hK_32 _ (Can.kp (by kernel_rfl))
           ·obtain ⟨ok3, hx_51, h⟩ := bsome h
            refine AW.jnSK (fun (ok3 : Bool) => ⟨[(3, .d (.bool ok3))], [], 0, Fr.emp, [], 0⟩) (c := ok3) (fun K_51 hK_51 => ?_) ?_
            ·have h := hx_51
             refine AW.sa fokW [] ⟨[(1, .ptr 0 0), (3, .d (.bool ok)), (6, .d (I 0))], [(0, .var 25 (cv25 b))], 1, Fr.emp, [], 0⟩ (by kernel_rfl) ?_
             obtain ⟨ok4, hx_52, h⟩ := bsome h
             refine AW.jqSK (fun (ok4 : Bool) => ⟨[(3, .d (.bool ok4))], [], 0, Fr.emp, [], 0⟩) (c := ok4) (fun K_52 hK_52 => ?_) ?_
             ·have h := hx_52
              refine AW.block ?_
              refine AW.whK (fun (⟨ok5, i1⟩ : Bool × Int) => ⟨[(1, .ptr 0 0), (3, .d (.bool ok5)), (6, .d (I i1))], [(0, .var 25 (cv25 b))], 1, Fr.emp, [], 0⟩) (g38_53 b) h (Can.kp (by kernel_rfl)) (fun s_53 c_53 h hb_53 K_53 hK_53 => ?_)
              obtain ⟨ok5, i1⟩ := s_53
              unfold g38_53 at h
              refine AW.seqK (fun K_54 hK_54 => ?_)
              refine AW.srwK (fun Q_55 hQ_55 => ?_)
              refine RW.au fokW 2 [] ⟨[(1, .ptr 0 0), (3, .d (.bool ok5)), (6, .d (I i1)), (91, .d (.bool ok5))], [(0, .var 25 (cv25 b))], 1, Fr.emp, [], 0⟩ (by kernel_rfl) ?_
              obtain ⟨v13, hx_56, h⟩ := bsome h
              refine RW.cut fokW 6 (⟨[(1, .ptr 0 0), (3, .d (.bool ok5)), (6, .d (I i1)), (97, .d (.bool v13))], [(0, .var 25 (cv25 b))], 1, Fr.emp, [], 0⟩) ?_ ?_
              ·refine r_split 91 rfl (fun hb_57 => ?_) (fun hb_57 => ?_)
               ·have h := ifT hb_57 hx_56
                refine RunC.auX 3 ⟨[(1, .ptr 0 0), (3, .d (.bool ok5)), (6, .d (I i1)), (91, .d (.bool true)), (92, .d (I i1)), (93, .ptr 0 9), (94, .d (.sl 3 (List.map e65 b.Trials)))], [(0, .var 25 (cv25 b))], 1, Fr.emp, [], 0⟩ (by kernel_rfl) ?_
                refine r_lenX rfl rfl lenm ?_
                refine RunC.auX 2 ⟨[(1, .ptr 0 0), (3, .d (.bool ok5)), (6, .d (I i1)), (92, .d (I i1)), (93, .ptr 0 9), (94, .d (.sl 3 (List.map e65 b.Trials))), (95, .d (I (b.Trials.length : Int))), (96, .d (.bool (decide (i1 < (b.Trials.length : Int))))), (97, .d (.bool (decide (i1 < (b.Trials.length : Int)))))], [(0, .var 25 (cv25 b))], 1, Fr.emp, [], 0⟩ (by kernel_rfl) ?_
                obtain rfl := Option.some.inj h
                refine RunC.finJ (Can.kp (by kernel_rfl))
               ·have h := ifF hb_57 hx_56
                refine RunC.auX 6 ⟨[(1, .ptr 0 0), (3, .d (.bool ok5)), (6, .d (I i1)), (92, .undef), (93, .undef), (94, .undef), (95, .undef), (96, .undef), (97, .d (.bool false))], [(0, .var 25 (cv25 b))], 1, Fr.emp, [], 0⟩ (by kernel_rfl) ?_
                obtain rfl := Option.some.inj h
                refine RunC.finJ (Can.kp (by kernel_rfl))
              ·refine RW.nil ?_
               refine hQ_55 _ ?_
               refine AW.cond rfl (fun hb_58 => ?_) (fun hb_58 => ?_)
               ·have h := ifT hb_58 h
                refine AW.skip ?_
                refine hK_54 _ ?_
                refine AW.seqK (fun K_59 hK_59 => ?_)
                refine AW.block ?_
                refine AW.drw fokW ?_
                refine RunC.auX 3 ⟨[(1, .ptr 0 0), (6, .d (I i1)), (101, .d (.sl 3 (List.map e65 b.Trials))), (102, .d (I i1))], [(0, .var 25 (cv25 b))], 1, Fr.emp, [], 0⟩ (by kernel_rfl) ?_
                obtain ⟨p1, hv_61, h⟩ := bsome h
                refine r_iaD trivial rfl rfl (ixL_ok hv_61).1 (row := e65 p1) (mapget (ixL_ok hv_61).2) ?_
                refine RunC.auX 4 ⟨[(1, .ptr 0 0), (6, .d (I i1)), (105, .d (I p1.Weight)), (107, .d (I b.Limit))], [(0, .var 25 (cv25 b))], 1, Fr.emp, [], 0⟩ (by kernel_rfl) ?_
                obtain ⟨r0_12, hx_62, h⟩ := bsome h
                refine r_call trivial rfl (k43 p1.Weight 1 b.Limit _ hx_62) rfl rfl ?_
                refine RunC.auX 1 ⟨[(1, .ptr 0 0), (6, .d (I i1)), (109, .d (.bool r0_12))], [(0, .var 25 (cv25 b))], 1, Fr.emp, [], 0⟩ (by kernel_rfl) ?_
                refine r_split 109 rfl (fun hb_63 => ?_) (fun hb_63 => ?_)
                ·have h := ifT hb_63 h
                 refine RunC.auX 3 ⟨[(1, .ptr 0 0), (6, .d (I i1)), (109, .d (.bool true)), (110, .ptr 0 9), (111, .d (.sl 3 (List.map e65 b.Trials))), (112, .d (I i1))], [(0, .var 25 (cv25 b))], 1, Fr.emp, [], 0⟩ (by kernel_rfl) ?_
                 refine r_iaD rfl rfl rfl (ixL_ok hv_61).1 (row := e65 p1) (mapget (ixL_ok hv_61).2) ?_
                 refine RunC.auX 7 ⟨[(1, .ptr 0 0), (6, .d (I i1)), (109, .d (.bool true)), (110, .ptr 0 9), (111, .d (.sl 3 (List.map e65 b.Trials))), (112, .d (I i1)), (113, .fp (e65 p1) 0), (114, .fp (e65 p1) 1), (115, .d (I p1.Lean_)), (116, .ptr 0 7), (117, .d (I b.Lean_)), (118, .d (I (wr (-b.Lean_)))), (119, .ptr 0 7), (120, .d (I b.Lean_))], [(0, .var 25 (cv25 b))], 1, Fr.emp, [], 0⟩ (by kernel_rfl) ?_
                 obtain ⟨r0_13, hx_64, h⟩ := bsome h
                 refine r_call rfl rfl (k43 p1.Lean_ (wr (-b.Lean_)) b.Lean_ _ hx_64) rfl rfl ?_
                 refine RunC.auX 2 ⟨[(1, .ptr 0 0), (3, .d (.bool r0_13)), (6, .d (I i1)), (110, .ptr 0 9), (111, .d (.sl 3 (List.map e65 b.Trials))), (112, .d (I i1)), (113, .fp (e65 p1) 0), (114, .fp (e65 p1) 1), (115, .d (I p1.Lean_)), (116, .ptr 0 7), (117, .d (I b.Lean_)), (118, .d (I (wr (-b.Lean_)))), (119, .ptr 0 7), (120, .d (I b.Lean_)), (121, .d (.bool r0_13))], [(0, .var 25 (cv25 b))], 1, Fr.emp, [], 0⟩ (by kernel_rfl) ?_
                 refine RunC.fin ⟨[(1, .ptr 0 0), (3, .d (.bool r0_13)), (6, .d (I i1)), (110, .ptr 0 9), (111, .d (.sl 3 (List.map e65 b.Trials))), (112, .d (I i1)), (113, .fp (e65 p1) 0), (114, .fp (e65 p1) 1), (115, .d (I p1.Lean_)), (116, .ptr 0 7), (117, .d (I b.Lean_)), (118, .d (I (wr (-b.Lean_)))), (119, .ptr 0 7), (120, .d (I b.Lean_)), (121, .d (.bool r0_13))], [(0, .var 25 (cv25 b))], 1, Fr.emp, [], 0⟩ (by kernel_rfl) (by kernel_rfl) ?_
                 refine hK_59 _ ?_
                 refine AW.ra fokW [] ⟨[(1, .ptr 0 0), (3, .d (.bool r0_13)), (6, .d (I (wr (i1 + 1)))), (110, .ptr 0 9), (111, .d (.sl 3 (List.map e65 b.Trials))), (112, .d (I i1)), (113, .fp (e65 p1) 0), (114, .fp (e65 p1) 1), (115, .d (I p1.Lean_)), (116, .ptr 0 7), (117, .d (I b.Lean_)), (118, .d (I (wr (-b.Lean_)))), (119, .ptr 0 7), (120, .d (I b.Lean_)), (121, .d (.bool r0_13))], [(0, .var 25 (cv25 b))], 1, Fr.emp, [], 0⟩ (by kernel_rfl) ?_
                 obtain rfl := Option.some.inj h
                 exact hK_53 _ _ rfl (Can.kp (by kernel_rfl))
                ·have h := ifF hb_63 h
                 refine RunC.auX 14 ⟨[(1, .ptr 0 0), (3, .d (.bool false)), (6, .d (I i1)), (110, .undef), (111, .undef), (112, .undef), (113, .undef), (114, .undef), (115, .undef), (116, .undef), (117, .undef), (118, .undef), (119, .undef), (120, .undef), (121, .undef)], [(0, .var 25 (cv25 b))], 1, Fr.emp, [], 0⟩ (by kernel_rfl) ?_
                 refine RunC.fin ⟨[(1, .ptr 0 0), (3, .d (.bool false)), (6, .d (I i1)), (110, .undef), (111, .undef), (112, .undef), (113, .undef), (114, .undef), (115, .undef), (116, .undef), (117, .undef), (118, .undef), (119, .undef), (120, .undef), (121, .undef)], [(0, .var 25 (cv25 b))], 1, Fr.emp, [], 0⟩ (by kernel_rfl) (by kernel_rfl) ?_
                 refine hK_59 _ ?_
                 refine AW.ra fokW [] ⟨[(1, .ptr 0 0), (3, .d (.bool false)), (6, .d (I (wr (i1 + 1)))), (110, .undef), (111, .undef), (112, .undef), (113, .undef), (114, .undef), (115, .undef), (116, .undef), (117, .undef), (118, .undef), (119, .undef), (120, .undef), (121, .undef)], [(0, .var 25 (cv25 b))], 1, Fr.emp, [], 0⟩ (by kernel_rfl) ?_
                 obtain rfl := Option.some.inj h
                 exact hK_53 _ _ rfl (Can.kp (by kernel_rfl))
               ·have h := ifF hb_58 h
                refine AW.exit ?_
                obtain rfl := Option.some.inj h
                obtain rfl := hb_53 _ rfl
                exact hK_52 _ (Can.kp (by kernel_rfl))
             ·obtain rfl := Option.some.inj h
              exact hK_51 _ (Can.kp (by kernel_rfl))
            ·refine AW.sa fokW [] ⟨[(2, .d (.bool ok3))], [], 0, Fr.emp, [], 0⟩ (by kernel_rfl) ?_
             obtain rfl := Option.some.inj h
             exact AW.ret (hR_0 _ (retX (.cons (.tmp rfl) .nil) (.refl _) rfl (by kernel_rfl) (by kernel_rfl)))
def g41 (n : Int) (many : Int) : Option Int := bif (decide (many < 1)) then (some 0) else ((must (decide (many ≠ 0))).bind fun _ => bif (decide ((n.tmod many) < 0)) then (some (wr ((n.tmod many) + many))) else (some (n.tmod many)))
theorem k41 (n : Int) (many : Int) (r : Int) (h : g41 n many = some r) : SCall Tryd.prog Gs 41 [.d (I n), .d (I many)] [] 0 Fr.emp (.d (I r)) [] 0 Fr.emp := by
 unfold g41 at h
 refine SCall.mkK Tryd.func41 c41 rfl rfl (by kernel_rfl) (fun Q_0 hR_0 hN_0 => ?_)
 refine AW.sa fokW [] ⟨[(0, .d (I n)), (1, .d (I many))], [], 0, Fr.emp, [], 0⟩ (by kernel_rfl) ?_
 refine AW.seqK (fun K_1 hK_1 => ?_)
 refine AW.sa fokW [] ⟨[(0, .d (I n)), (1, .d (I many)), (7, .d (.bool (decide (many < 1))))], [], 0, Fr.emp, [], 0⟩ (by kernel_rfl) ?_
 refine AW.cond rfl (fun hb_2 => ?_) (fun hb_2 => ?_)
 ·have h := ifT hb_2 h
  refine AW.sa fokW [] ⟨[(4, .d (I 0))], [], 0, Fr.emp, [], 0⟩ (by kernel_rfl) ?_
  obtain rfl := Option.some.inj h
  exact AW.ret (hR_0 _ (retX (.cons (.tmp rfl) .nil) (.refl _) rfl (by kernel_rfl) (by kernel_rfl)))
 ·have h := ifF hb_2 h
  refine AW.skip ?_
  refine hK_1 _ ?_
  refine AW.srwK (fun Q_3 hQ_3 => ?_)
  refine RW.au fokW 2 [] ⟨[(1, .d (I many)), (8, .d (I n)), (9, .d (I many))], [], 0, Fr.emp, [], 0⟩ (by kernel_rfl) ?_
  obtain ⟨_, hv_4, h⟩ := bsome h
  refine RW.one fokW (r_rem trivial rfl rfl (of_decide_eq_true (must_ok hv_4)) (r_end ?_))
  refine RW.au fokW 1 [] ⟨[(1, .d (I many)), (5, .d (I (n.tmod many)))], [], 0, Fr.emp, [], 0⟩ (by kernel_rfl) ?_
  refine RW.nil ?_
  refine hQ_3 _ ?_
  refine AW.seqK (fun K_5 hK_5 => ?_)
  refine AW.sa fokW [] ⟨[(1, .d (I many)), (5, .d (I (n.tmod many))), (12, .d (.bool (decide ((n.tmod many) < 0))))], [], 0, Fr.emp, [], 0⟩ (by kernel_rfl) ?_
  refine AW.cond rfl (fun hb_6 => ?_) (fun hb_6 => ?_)
  ·have h := ifT hb_6 h
   refine AW.ra fokW [] ⟨[(5, .d (I (wr ((n.tmod many) + many))))], [], 0, Fr.emp, [], 0⟩ (by kernel_rfl) ?_
   refine hK_5 _ ?_
   refine AW.sa fokW [] ⟨[(4, .d (I (wr ((n.tmod many) + many))))], [], 0, Fr.emp, [], 0⟩ (by kernel_rfl) ?_
   obtain rfl := Option.some.inj h
   exact AW.ret (hR_0 _ (retX (.cons (.tmp rfl) .nil) (.refl _) rfl (by kernel_rfl) (by kernel_rfl)))
  ·have h := ifF hb_6 h
   refine AW.skip ?_
   refine hK_5 _ ?_
   refine AW.sa fokW [] ⟨[(4, .d (I (n.tmod many)))], [], 0, Fr.emp, [], 0⟩ (by kernel_rfl) ?_
   obtain rfl := Option.some.inj h
   exact AW.ret (hR_0 _ (retX (.cons (.tmp rfl) .nil) (.refl _) rfl (by kernel_rfl) (by kernel_rfl)))
end Go.Proofs.Tz
namespace Go.Proofs.Tz
open Go Go.Abs Go.Proofs
def g51_2 (below : Int) : Int → Int → Int → Option (Ctl (Int) (Bool)) := fun i p last => (bif (decide (p ≤ last)) then (some true) else (some (decide (below ≤ p)))).bind fun v => bif v then (some (.brk false)) else (some (.next p))
def g51 (l : (List Int)) (below : Int) : Option Bool := bindC (eachC (g51_2 below) l 0 (-1)) fun last => some true
theorem k51 (l : (List Int)) (below : Int) (r : Bool) (h : g51 l below = some r) : SCall Tryd.prog Gs 51 [.d (.sl 1 (List.map e3 l)), .d (I below)] [] 0 Fr.emp (.d (.bool r)) [] 0 Fr.emp := by
 unfold g51 at h
 refine SCall.mkK Tryd.func51 c51 rfl rfl (by kernel_rfl) (fun Q_0 hR_0 hN_0 => ?_)
 refine AW.sa fokW [] ⟨[(0, .d (.sl 1 (List.map e3 l))), (1, .d (I below))], [], 0, Fr.emp, [], 0⟩ (by kernel_rfl) ?_
 refine AW.sa fokW [] ⟨[(0, .d (.sl 1 (List.map e3 l))), (1, .d (I below)), (5, .d (I (-1)))], [], 0, Fr.emp, [], 0⟩ (by kernel_rfl) ?_
 refine AW.seqK (fun K_1 hK_1 => ?_)
 refine AW.sa fokW [] ⟨[(0, .d (.sl 1 (List.map e3 l))), (1, .d (I below)), (5, .d (I (-1))), (6, .d (I 0))], [], 0, Fr.emp, [], 0⟩ (by kernel_rfl) ?_
 refine AW.block ?_
 refine AW.sln (t := 0) rfl (fun hN_2 => ?_)
 rw [List.length_map] at hN_2
 obtain ⟨out_2, hx_2, hk_2⟩ := bsomeC h
 refine AW.evCK (fun (i : Int) (last : Int) => ⟨[(0, .d (.sl 1 (List.map e3 l))), (1, .d (I below)), (5, .d (I last)), (6, .d (I i))], [], 0, Fr.emp, [], 0⟩) (g51_2 below) hx_2 (Can.kp (by kernel_rfl)) (fun i p last hi_2 hl_2 hp_2 c_2 h hb_2 K_2 hK_2 => ?_) (fun i last hi_2 hl_2 hout => ?_)
 ·unfold g51_2 at h
  refine AW.seqK (fun K_3 hK_3 => ?_)
  refine AW.srwK (fun Q_4 hQ_4 => ?_)
  refine RW.au fokW 2 [] ⟨[(0, .d (.sl 1 (List.map e3 l))), (1, .d (I below)), (5, .d (I last)), (6, .d (I i)), (7, .d (I i)), (8, .d (.sl 1 (List.map e3 l)))], [], 0, Fr.emp, [], 0⟩ (by kernel_rfl) ?_
  refine RW.one fokW (r_lenX trivial rfl lenm (r_end ?_))
  refine RW.au fokW 1 [] ⟨[(0, .d (.sl 1 (List.map e3 l))), (1, .d (I below)), (5, .d (I last)), (6, .d (I i)), (10, .d (.bool (decide (i < (l.length : Int)))))], [], 0, Fr.emp, [], 0⟩ (by kernel_rfl) ?_
  refine RW.nil ?_
  refine hQ_4 _ ?_
  refine AW.cond rfl (fun hb_5 => ?_) (fun hb_5 => False.elim (by have := of_decide_eq_false hb_5; omega))
  refine AW.skip ?_
  refine hK_3 _ ?_
  refine AW.seqK (fun K_6 hK_6 => ?_)
  refine AW.block ?_
  refine AW.seqK (fun K_7 hK_7 => ?_)
  refine AW.srwK (fun Q_8 hQ_8 => ?_)
  refine RW.au fokW 2 [] ⟨[(0, .d (.sl 1 (List.map e3 l))), (1, .d (I below)), (5, .d (I last)), (6, .d (I i)), (13, .d (.sl 1 (List.map e3 l))), (14, .d (I i))], [], 0, Fr.emp, [], 0⟩ (by kernel_rfl) ?_
  refine RW.one fokW (r_iaD trivial rfl rfl hi_2 (row := e3 p) (mapget hp_2) (r_end ?_))
  refine RW.au fokW 4 [] ⟨[(0, .d (.sl 1 (List.map e3 l))), (1, .d (I below)), (6, .d (I i)), (19, .d (.bool (decide (p ≤ last))))], [], 0, Fr.emp, [], 0⟩ (by kernel_rfl) ?_
  obtain ⟨v, hx_9, h⟩ := bsome h
  refine RW.cut fokW 7 (⟨[(0, .d (.sl 1 (List.map e3 l))), (1, .d (I below)), (6, .d (I i)), (26, .d (.bool v))], [], 0, Fr.emp, [], 0⟩) ?_ ?_
  ·refine r_split 19 rfl (fun hb_10 => ?_) (fun hb_10 => ?_)
   ·have h := ifT hb_10 hx_9
    refine RunC.auX 7 ⟨[(0, .d (.sl 1 (List.map e3 l))), (1, .d (I below)), (6, .d (I i)), (20, .undef), (21, .undef), (22, .undef), (23, .undef), (24, .undef), (25, .undef), (26, .d (.bool true))], [], 0, Fr.emp, [], 0⟩ (by kernel_rfl) ?_
    obtain rfl := Option.some.inj h
    refine RunC.finJ (Can.kp (by kernel_rfl))
   ·have h := ifF hb_10 hx_9
    refine RunC.auX 2 ⟨[(0, .d (.sl 1 (List.map e3 l))), (1, .d (I below)), (6, .d (I i)), (19, .d (.bool false)), (20, .d (.sl 1 (List.map e3 l))), (21, .d (I i))], [], 0, Fr.emp, [], 0⟩ (by kernel_rfl) ?_
    refine r_iaD rfl rfl rfl hi_2 (row := e3 p) (mapget hp_2) ?_
    refine RunC.auX 4 ⟨[(0, .d (.sl 1 (List.map e3 l))), (1, .d (I below)), (6, .d (I i)), (20, .d (.sl 1 (List.map e3 l))), (21, .d (I i)), (22, .fp (e3 p) 0), (23, .d (I p)), (24, .d (I below)), (25, .d (.bool (decide (below ≤ p)))), (26, .d (.bool (decide (below ≤ p))))], [], 0, Fr.emp, [], 0⟩ (by kernel_rfl) ?_
    obtain rfl := Option.some.inj h
    refine RunC.finJ (Can.kp (by kernel_rfl))
  ·refine RW.nil ?_
   refine hQ_8 _ ?_
   refine AW.cond rfl (fun hb_11 => ?_) (fun hb_11 => ?_)
   ·have h := ifT hb_11 h
    refine AW.sa fokW [] ⟨[(4, .d (.bool false))], [], 0, Fr.emp, [], 0⟩ (by kernel_rfl) ?_
    obtain rfl := Option.some.inj h
    have e_1 := hb_2 _ rfl
    subst e_1
    obtain rfl := Aft.bk hk_2
    exact AW.ret (hR_0 _ (retX (.cons (.tmp rfl) .nil) (.refl _) rfl (by kernel_rfl) (by kernel_rfl)))
   ·have h := ifF hb_11 h
    refine AW.skip ?_
    refine hK_7 _ ?_
    refine AW.rw ?_
    refine RW.au fokW 2 [] ⟨[(0, .d (.sl 1 (List.map e3 l))), (1, .d (I below)), (6, .d (I i)), (27, .d (.sl 1 (List.map e3 l))), (28, .d (I i))], [], 0, Fr.emp, [], 0⟩ (by kernel_rfl) ?_
    refine RW.one fokW (r_iaD trivial rfl rfl hi_2 (row := e3 p) (mapget hp_2) (r_end ?_))
    refine RW.au fokW 2 [] ⟨[(0, .d (.sl 1 (List.map e3 l))), (1, .d (I below)), (5, .d (I p)), (6, .d (I i))], [], 0, Fr.emp, [], 0⟩ (by kernel_rfl) ?_
    refine RW.nil ?_
    refine hK_6 _ ?_
    refine AW.ra fokW [] ⟨[(0, .d (.sl 1 (List.map e3 l))), (1, .d (I below)), (5, .d (I p)), (6, .d (I (wr (i + 1))))], [], 0, Fr.emp, [], 0⟩ (by kernel_rfl) ?_
    obtain rfl := Option.some.inj h
    have ew : wr (i + 1) = i + 1 := inext (N := (l.length : Int)) (by omega) (by omega) (by omega)
    rw [ew]
    exact hK_2 _ _ rfl (Can.kp (by kernel_rfl))
 ·subst hout
  have h := Aft.nx hk_2
  refine AW.seqK (fun K_13 hK_13 => ?_)
  refine AW.srwK (fun Q_14 hQ_14 => ?_)
  refine RW.au fokW 2 [] ⟨[(0, .d (.sl 1 (List.map e3 l))), (1, .d (I below)), (5, .d (I last)), (6, .d (I i)), (7, .d (I i)), (8, .d (.sl 1 (List.map e3 l)))], [], 0, Fr.emp, [], 0⟩ (by kernel_rfl) ?_
  refine RW.one fokW (r_lenX trivial rfl lenm (r_end ?_))
  refine RW.au fokW 1 [] ⟨[(0, .d (.sl 1 (List.map e3 l))), (1, .d (I below)), (5, .d (I last)), (6, .d (I i)), (10, .d (.bool (decide (i < (l.length : Int)))))], [], 0, Fr.emp, [], 0⟩ (by kernel_rfl) ?_
  refine RW.nil ?_
  refine hQ_14 _ ?_
  refine AW.cond rfl (fun hb_15 => False.elim (by have := of_decide_eq_true hb_15; omega)) (fun hb_15 => ?_)
  refine AW.exit ?_
  refine hK_1 _ ?_
  refine AW.sa fokW [] ⟨[(4, .d (.bool true))], [], 0, Fr.emp, [], 0⟩ (by kernel_rfl) ?_
  obtain rfl := Option.some.inj h
  exact AW.ret (hR_0 _ (retX (.cons (.tmp rfl) .nil) (.refl _) rfl (by kernel_rfl) (by kernel_rfl)))
def g91_2 (n : Int) : Int → Int → Unit → Option (Ctl (Unit) (Int)) := fun i p _ => bif (decide (p = n)) then (some (.brk i)) else (some (.next ()))
def g91 (l : (List Int)) (n : Int) : Option Int := bindC (eachC (g91_2 n) l 0 ()) fun _ => some (-1)
theorem k91 (l : (List Int)) (n : Int) (r : Int) (h : g91 l n = some r) : SCall Tryd.prog Gs 91 [.d (.sl 1 (List.map e3 l)), .d (I n)] [] 0 Fr.emp (.d (I r)) [] 0 Fr.emp := by
 unfold g91 at h
 refine SCall.mkK Tryd.func91 c91 rfl rfl (by kernel_rfl) (fun Q_0 hR_0 hN_0 => ?_)
 refine AW.sa fokW [] ⟨[(0, .d (.sl 1 (List.map e3 l))), (1, .d (I n))], [], 0, Fr.emp, [], 0⟩ (by kernel_rfl) ?_
 refine AW.seqK (fun K_1 hK_1 => ?_)
 refine AW.sa fokW [] ⟨[(0, .d (.sl 1 (List.map e3 l))), (1, .d (I n)), (5, .d (I 0))], [], 0, Fr.emp, [], 0⟩ (by kernel_rfl) ?_
 refine AW.block ?_
 refine AW.sln (t := 0) rfl (fun hN_2 => ?_)
 rw [List.length_map] at hN_2
 obtain ⟨out_2, hx_2, hk_2⟩ := bsomeC h
 refine AW.evCK (fun (i : Int) (_ : Unit) => ⟨[(0, .d (.sl 1 (List.map e3 l))), (1, .d (I n)), (5, .d (I i))], [], 0, Fr.emp, [], 0⟩) (g91_2 n) hx_2 (Can.kp (by kernel_rfl)) (fun i p s_2 hi_2 hl_2 hp_2 c_2 h hb_2 K_2 hK_2 => ?_) (fun i s_2 hi_2 hl_2 hout => ?_)
 ·unfold g91_2 at h
  refine AW.seqK (fun K_3 hK_3 => ?_)
  refine AW.srwK (fun Q_4 hQ_4 => ?_)
  refine RW.au fokW 2 [] ⟨[(0, .d (.sl 1 (List.map e3 l))), (1, .d (I n)), (5, .d (I i)), (6, .d (I i)), (7, .d (.sl 1 (List.map e3 l)))], [], 0, Fr.emp, [], 0⟩ (by kernel_rfl) ?_
  refine RW.one fokW (r_lenX trivial rfl lenm (r_end ?_))
  refine RW.au fokW 1 [] ⟨[(0, .d (.sl 1 (List.map e3 l))), (1, .d (I n)), (5, .d (I i)), (9, .d (.bool (decide (i < (l.length : Int)))))], [], 0, Fr.emp, [], 0⟩ (by kernel_rfl) ?_
  refine RW.nil ?_
  refine hQ_4 _ ?_
  refine AW.cond rfl (fun hb_5 => ?_) (fun hb_5 => False.elim (by have := of_decide_eq_false hb_5; omega))
  refine AW.skip ?_
  refine hK_3 _ ?_
  refine AW.seqK (fun K_6 hK_6 => ?_)
  refine AW.block ?_
  refine AW.srwK (fun Q_7 hQ_7 => ?_)
  refine RW.au fokW 2 [] ⟨[(0, .d (.sl 1 (List.map e3 l))), (1, .d (I n)), (5, .d (I i)), (12, .d (.sl 1 (List.map e3 l))), (13, .d (I i))], [], 0, Fr.emp, [], 0⟩ (by kernel_rfl) ?_
  refine RW.one fokW (r_iaD trivial rfl rfl hi_2 (row := e3 p) (mapget hp_2) (r_end ?_))
  refine RW.au fokW 3 [] ⟨[(0, .d (.sl 1 (List.map e3 l))), (1, .d (I n)), (5, .d (I i)), (17, .d (.bool (decide (p = n))))], [], 0, Fr.emp, [], 0⟩ (by kernel_rfl) ?_
  refine RW.nil ?_
  refine hQ_7 _ ?_
  refine AW.cond rfl (fun hb_8 => ?_) (fun hb_8 => ?_)
  ·have h := ifT hb_8 h
   refine AW.sa fokW [] ⟨[(4, .d (I i))], [], 0, Fr.emp, [], 0⟩ (by kernel_rfl) ?_
   obtain rfl := Option.some.inj h
   have e_1 := hb_2 _ rfl
   subst e_1
   obtain rfl := Aft.bk hk_2
   exact AW.ret (hR_0 _ (retX (.cons (.tmp rfl) .nil) (.refl _) rfl (by kernel_rfl) (by kernel_rfl)))
  ·have h := ifF hb_8 h
   refine AW.skip ?_
   refine hK_6 _ ?_
   refine AW.ra fokW [] ⟨[(0, .d (.sl 1 (List.map e3 l))), (1, .d (I n)), (5, .d (I (wr (i + 1))))], [], 0, Fr.emp, [], 0⟩ (by kernel_rfl) ?_
   obtain rfl := Option.some.inj h
   have ew : wr (i + 1) = i + 1 := inext (N := (l.length : Int)) (by omega) (by omega) (by omega)
   rw [ew]
   exact hK_2 _ _ rfl (Can.kp (by kernel_rfl))
 ·subst hout
  have h := Aft.nx hk_2
  refine AW.seqK (fun K_9 hK_9 => ?_)
  refine AW.srwK (fun Q_10 hQ_10 => ?_)
  refine RW.au fokW 2 [] ⟨[(0, .d (.sl 1 (List.map e3 l))), (1, .d (I n)), (5, .d (I i)), (6, .d (I i)), (7, .d (.sl 1 (List.map e3 l)))], [], 0, Fr.emp, [], 0⟩ (by kernel_rfl) ?_
  refine RW.one fokW (r_lenX trivial rfl lenm (r_end ?_))
  refine RW.au fokW 1 [] ⟨[(0, .d (.sl 1 (List.map e3 l))), (1, .d (I n)), (5, .d (I i)), (9, .d (.bool (decide (i < (l.length : Int)))))], [], 0, Fr.emp, [], 0⟩ (by kernel_rfl) ?_
  refine RW.nil ?_
  refine hQ_10 _ ?_
  refine AW.cond rfl (fun hb_11 => False.elim (by have := of_decide_eq_true hb_11; omega)) (fun hb_11 => ?_)
  refine AW.exit ?_
  refine hK_1 _ ?_
  refine AW.sa fokW [] ⟨[(4, .d (I (-1)))], [], 0, Fr.emp, [], 0⟩ (by kernel_rfl) ?_
  obtain rfl := Option.some.inj h
  exact AW.ret (hR_0 _ (retX (.cons (.tmp rfl) .nil) (.refl _) rfl (by kernel_rfl) (by kernel_rfl)))
def g52_2 (l : (List Int)) : Int → StandTrial → (List StandTrial) → Option (List StandTrial) := fun i p l1 => (g91 l i).bind fun r0_1 => bif (decide (r0_1 < 0)) then ((appL 24 l1 [p]).bind fun l2 => some l2) else (some l1)
def g52 (b : StandBook) (l : (List Int)) : Option StandBook := (eachS (g52_2 l) b.Trials 0 ([] : List StandTrial)).bind fun l1 => some (StandBook.mk b.Kind b.Front b.Back b.Radius b.Parts b.Along b.High b.Lean_ b.Limit l1)
theorem k52 (b : StandBook) (l : (List Int)) (r : StandBook) (h : g52 b l = some r) : SCall Tryd.prog Gs 52 [.agg (cv25 b), .d (.sl 1 (List.map e3 l))] [] 0 Fr.emp (.agg (cv25 r)) [] 0 Fr.emp := by
 unfold g52 at h
 refine SCall.mkK Tryd.func52 c52 rfl rfl (by kernel_rfl) (fun Q_0 hR_0 hN_0 => ?_)
 refine AW.sa fokW [] ⟨[(1, .d (.sl 1 (List.map e3 l))), (2, .ptr 0 0), (4, .ptr 1 0)], [(1, .var 25 [.d (I 0), .d (I 0), .d (I 0), .d (I 0), .d (.nilSl), .d (I 0), .d (I 0), .d (I 0), .d (I 0), .d (.nilSl)]), (0, .var 25 (cv25 b))], 2, Fr.emp, [], 0⟩ (by kernel_rfl) ?_
 refine AW.sa fokW [] ⟨[(1, .d (.sl 1 (List.map e3 l))), (2, .ptr 0 0), (4, .ptr 1 0), (5, .ptr 2 0)], [(2, .var 25 (cv25 b)), (1, .var 25 [.d (I 0), .d (I 0), .d (I 0), .d (I 0), .d (.nilSl), .d (I 0), .d (I 0), .d (I 0), .d (I 0), .d (.nilSl)]), (0, .var 25 (cv25 b))], 3, Fr.emp, [], 0⟩ (by kernel_rfl) ?_
 refine AW.sa fokW [] ⟨[(1, .d (.sl 1 (List.map e3 l))), (2, .ptr 0 0), (4, .ptr 1 0), (5, .ptr 2 0)], [(2, .var 25 [.d (I b.Kind), .d (I b.Front), .d (I b.Back), .d (I b.Radius), .d (.sl 4 (List.map e70 b.Parts)), .d (I b.Along), .d (I b.High), .d (I b.Lean_), .d (I b.Limit), .d (.nilSl)]), (1, .var 25 [.d (I 0), .d (I 0), .d (I 0), .d (I 0), .d (.nilSl), .d (I 0), .d (I 0), .d (I 0), .d (I 0), .d (.nilSl)]), (0, .var 25 (cv25 b))], 3, Fr.emp, [], 0⟩ (by kernel_rfl) ?_
 refine AW.seqK (fun K_1 hK_1 => ?_)
 refine AW.sa fokW [] ⟨[(1, .d (.sl 1 (List.map e3 l))), (2, .ptr 0 0), (4, .ptr 1 0), (5, .ptr 2 0), (6, .d (I 0))], [(2, .var 25 [.d (I b.Kind), .d (I b.Front), .d (I b.Back), .d (I b.Radius), .d (.sl 4 (List.map e70 b.Parts)), .d (I b.Along), .d (I b.High), .d (I b.Lean_), .d (I b.Limit), .d (.nilSl)]), (1, .var 25 [.d (I 0), .d (I 0), .d (I 0), .d (I 0), .d (.nilSl), .d (I 0), .d (I 0), .d (I 0), .d (I 0), .d (.nilSl)]), (0, .var 25 (cv25 b))], 3, Fr.emp, [], 0⟩ (by kernel_rfl) ?_
 refine AW.block ?_
 refine AW.slh (r := 0) (off := 9) rfl rfl (fun hN_2 => ?_)
 rw [List.length_map] at hN_2
 obtain ⟨out_2, hx_2, h⟩ := bsome h
 refine AW.evSK (fun (i : Int) (l1 : List StandTrial) => ⟨[(1, .d (.sl 1 (List.map e3 l))), (2, .ptr 0 0), (4, .ptr 1 0), (5, .ptr 2 0), (6, .d (I i))], [(2, .var 25 [.d (I b.Kind), .d (I b.Front), .d (I b.Back), .d (I b.Radius), .d (.sl 4 (List.map e70 b.Parts)), .d (I b.Along), .d (I b.High), .d (I b.Lean_), .d (I b.Limit), .own 3 (List.map e65 l1).length]), (3, .row 65 3 (List.map e65 l1)), (1, .var 25 [.d (I 0), .d (I 0), .d (I 0), .d (I 0), .d (.nilSl), .d (I 0), .d (I 0), .d (I 0), .d (I 0), .d (.nilSl)]), (0, .var 25 (cv25 b))], 4, Fr.emp, [], 0⟩) (g52_2 l) hx_2 (Can.trans (Can.thawH 2 9 25 65 3 rfl rfl rfl) (Can.kp (by kernel_rfl))) (fun i p l1 hi_2 hl_2 hp_2 c_2 h K_2 hK_2 => ?_) (fun i l1 hi_2 hl_2 hout => ?_)
 ·unfold g52_2 at h
  refine AW.seqK (fun K_3 hK_3 => ?_)
  refine AW.srwK (fun Q_4 hQ_4 => ?_)
  refine RW.au fokW 3 [] ⟨[(1, .d (.sl 1 (List.map e3 l))), (2, .ptr 0 0), (4, .ptr 1 0), (5, .ptr 2 0), (6, .d (I i)), (9, .d (I i)), (11, .d (.sl 3 (List.map e65 b.Trials)))], [(2, .var 25 [.d (I b.Kind), .d (I b.Front), .d (I b.Back), .d (I b.Radius), .d (.sl 4 (List.map e70 b.Parts)), .d (I b.Along), .d (I b.High), .d (I b.Lean_), .d (I b.Limit), .own 3 (List.map e65 l1).length]), (3, .row 65 3 (List.map e65 l1)), (1, .var 25 [.d (I 0), .d (I 0), .d (I 0), .d (I 0), .d (.nilSl), .d (I 0), .d (I 0), .d (I 0), .d (I 0), .d (.nilSl)]), (0, .var 25 (cv25 b))], 4, Fr.emp, [], 0⟩ (by kernel_rfl) ?_
  refine RW.one fokW (r_lenX trivial rfl lenm (r_end ?_))
  refine RW.au fokW 1 [] ⟨[(1, .d (.sl 1 (List.map e3 l))), (2, .ptr 0 0), (4, .ptr 1 0), (5, .ptr 2 0), (6, .d (I i)), (13, .d (.bool (decide (i < (b.Trials.length : Int)))))], [(2, .var 25 [.d (I b.Kind), .d (I b.Front), .d (I b.Back), .d (I b.Radius), .d (.sl 4 (List.map e70 b.Parts)), .d (I b.Along), .d (I b.High), .d (I b.Lean_), .d (I b.Limit), .own 3 (List.map e65 l1).length]), (3, .row 65 3 (List.map e65 l1)), (1, .var 25 [.d (I 0), .d (I 0), .d (I 0), .d (I 0), .d (.nilSl), .d (I 0), .d (I 0), .d (I 0), .d (I 0), .d (.nilSl)]), (0, .var 25 (cv25 b))], 4, Fr.emp, [], 0⟩ (by kernel_rfl) ?_
  refine RW.nil ?_
  refine hQ_4 _ ?_
  refine AW.cond rfl (fun hb_5 => ?_) (fun hb_5 => False.elim (by have := of_decide_eq_false hb_5; omega))
  refine AW.skip ?_
  refine hK_3 _ ?_
  refine AW.seqK (fun K_6 hK_6 => ?_)
  refine AW.block ?_
  refine AW.srwK (fun Q_7 hQ_7 => ?_)
  refine RW.au fokW 2 [] ⟨[(1, .d (.sl 1 (List.map e3 l))), (2, .ptr 0 0), (4, .ptr 1 0), (5, .ptr 2 0), (6, .d (I i)), (16, .d (.sl 1 (List.map e3 l))), (17, .d (I i))], [(2, .var 25 [.d (I b.Kind), .d (I b.Front), .d (I b.Back), .d (I b.Radius), .d (.sl 4 (List.map e70 b.Parts)), .d (I b.Along), .d (I b.High), .d (I b.Lean_), .d (I b.Limit), .own 3 (List.map e65 l1).length]), (3, .row 65 3 (List.map e65 l1)), (1, .var 25 [.d (I 0), .d (I 0), .d (I 0), .d (I 0), .d (.nilSl), .d (I 0), .d (I 0), .d (I 0), .d (I 0), .d (.nilSl)]), (0, .var 25 (cv25 b))], 4, Fr.emp, [], 0⟩ (by kernel_rfl) ?_
  obtain ⟨r0_1, hx_8, h⟩ := bsome h
  refine RW.one fokW (r_call trivial rfl (k91 l i _ hx_8) rfl rfl (r_end ?_))
  refine RW.au fokW 1 [] ⟨[(1, .d (.sl 1 (List.map e3 l))), (2, .ptr 0 0), (4, .ptr 1 0), (5, .ptr 2 0), (6, .d (I i)), (19, .d (.bool (decide (r0_1 < 0))))], [(2, .var 25 [.d (I b.Kind), .d (I b.Front), .d (I b.Back), .d (I b.Radius), .d (.sl 4 (List.map e70 b.Parts)), .d (I b.Along), .d (I b.High), .d (I b.Lean_), .d (I b.Limit), .own 3 (List.map e65 l1).length]), (3, .row 65 3 (List.map e65 l1)), (1, .var 25 [.d (I 0), .d (I 0), .d (I 0), .d (I 0), .d (.nilSl), .d (I 0), .d (I 0), .d (I 0), .d (I 0), .d (.nilSl)]), (0, .var 25 (cv25 b))], 4, Fr.emp, [], 0⟩ (by kernel_rfl) ?_
  refine RW.nil ?_
  refine hQ_7 _ ?_
  refine AW.cond rfl (fun hb_9 => ?_) (fun hb_9 => ?_)
  ·have h := ifT hb_9 h
   refine AW.drw fokW ?_
   refine RunC.auX 5 ⟨[(1, .d (.sl 1 (List.map e3 l))), (2, .ptr 0 0), (4, .ptr 1 0), (5, .ptr 2 0), (6, .d (I i)), (21, .own 3 (List.map e65 l1).length), (23, .d (.sl 3 (List.map e65 b.Trials))), (24, .d (I i))], [(2, .var 25 [.d (I b.Kind), .d (I b.Front), .d (I b.Back), .d (I b.Radius), .d (.sl 4 (List.map e70 b.Parts)), .d (I b.Along), .d (I b.High), .d (I b.Lean_), .d (I b.Limit), .own 3 (List.map e65 l1).length]), (3, .row 65 3 (List.map e65 l1)), (1, .var 25 [.d (I 0), .d (I 0), .d (I 0), .d (I 0), .d (.nilSl), .d (I 0), .d (I 0), .d (I 0), .d (I 0), .d (.nilSl)]), (0, .var 25 (cv25 b))], 4, Fr.emp, [], 0⟩ (by kernel_rfl) ?_
   refine r_iaD trivial rfl rfl hi_2 (row := e65 p) (mapget hp_2) ?_
   refine RunC.auX 2 ⟨[(1, .d (.sl 1 (List.map e3 l))), (2, .ptr 0 0), (4, .ptr 1 0), (5, .ptr 2 0), (6, .d (I i)), (21, .own 3 (List.map e65 l1).length), (27, .own 4 (List.map e65 [p]).length)], [(4, .row 65 3 (List.map e65 [p])), (2, .var 25 [.d (I b.Kind), .d (I b.Front), .d (I b.Back), .d (I b.Radius), .d (.sl 4 (List.map e70 b.Parts)), .d (I b.Along), .d (I b.High), .d (I b.Lean_), .d (I b.Limit), .own 3 (List.map e65 l1).length]), (3, .row 65 3 (List.map e65 l1)), (1, .var 25 [.d (I 0), .d (I 0), .d (I 0), .d (I 0), .d (.nilSl), .d (I 0), .d (I 0), .d (I 0), .d (I 0), .d (.nilSl)]), (0, .var 25 (cv25 b))], 5, Fr.emp, [], 0⟩ (by kernel_rfl) ?_
   obtain ⟨l2, hv_11, h⟩ := bsome h
   refine r_apO trivial rfl rfl rfl rfl rfl rfl (apz hv_11 e65) (apr hv_11 e65) ?_
   refine RunC.auX 2 ⟨[(1, .d (.sl 1 (List.map e3 l))), (2, .ptr 0 0), (4, .ptr 1 0), (5, .ptr 2 0), (6, .d (I i))], [(2, .var 25 [.d (I b.Kind), .d (I b.Front), .d (I b.Back), .d (I b.Radius), .d (.sl 4 (List.map e70 b.Parts)), .d (I b.Along), .d (I b.High), .d (I b.Lean_), .d (I b.Limit), .own 3 (List.map e65 l2).length]), (3, .row 65 3 (List.map e65 l2)), (4, .row 65 3 (List.map e65 [p])), (1, .var 25 [.d (I 0), .d (I 0), .d (I 0), .d (I 0), .d (.nilSl), .d (I 0), .d (I 0), .d (I 0), .d (I 0), .d (.nilSl)]), (0, .var 25 (cv25 b))], 5, Fr.emp, [], 0⟩ (by kernel_rfl) ?_
   refine RunC.fin ⟨[(1, .d (.sl 1 (List.map e3 l))), (2, .ptr 0 0), (4, .ptr 1 0), (5, .ptr 2 0), (6, .d (I i))], [(2, .var 25 [.d (I b.Kind), .d (I b.Front), .d (I b.Back), .d (I b.Radius), .d (.sl 4 (List.map e70 b.Parts)), .d (I b.Along), .d (I b.High), .d (I b.Lean_), .d (I b.Limit), .own 3 (List.map e65 l2).length]), (3, .row 65 3 (List.map e65 l2)), (1, .var 25 [.d (I 0), .d (I 0), .d (I 0), .d (I 0), .d (.nilSl), .d (I 0), .d (I 0), .d (I 0), .d (I 0), .d (.nilSl)]), (0, .var 25 (cv25 b))], 5, Fr.emp, [], 0⟩ (by kernel_rfl) (by kernel_rfl) ?_
   refine hK_6 _ ?_
   refine AW.ra fokW [] ⟨[(1, .d (.sl 1 (List.map e3 l))), (2, .ptr 0 0), (4, .ptr 1 0), (5, .ptr 2 0), (6, .d (I (wr (i + 1))))], [(2, .var 25 [.d (I b.Kind), .d (I b.Front), .d (I b.Back), .d (I b.Radius), .d (.sl 4 (List.map e70 b.Parts)), .d (I b.Along), .d (I b.High), .d (I b.Lean_), .d (I b.Limit), .own 3 (List.map e65 l2).length]), (3, .row 65 3 (List.map e65 l2)), (1, .var 25 [.d (I 0), .d (I 0), .d (I 0), .d (I 0), .d (.nilSl), .d (I 0), .d (I 0), .d (I 0), .d (I 0), .d (.nilSl)]), (0, .var 25 (cv25 b))], 5, Fr.emp, [], 0⟩ (by kernel_rfl) ?_
   obtain rfl := Option.some.inj h
   have ew : wr (i + 1) = i + 1 := inext (N := (b.Trials.length : Int)) (by omega) (by omega) (by omega)
   rw [ew]
   exact hK_2 _ (Can.kp (by kernel_rfl))
  ·have h := ifF hb_9 h
   refine AW.skip ?_
   refine hK_6 _ ?_
   refine AW.ra fokW [] ⟨[(1, .d (.sl 1 (List.map e3 l))), (2, .ptr 0 0), (4, .ptr 1 0), (5, .ptr 2 0), (6, .d (I (wr (i + 1))))], [(2, .var 25 [.d (I b.Kind), .d (I b.Front), .d (I b.Back), .d (I b.Radius), .d (.sl 4 (List.map e70 b.Parts)), .d (I b.Along), .d (I b.High), .d (I b.Lean_), .d (I b.Limit), .own 3 (List.map e65 l1).length]), (3, .row 65 3 (List.map e65 l1)), (1, .var 25 [.d (I 0), .d (I 0), .d (I 0), .d (I 0), .d (.nilSl), .d (I 0), .d (I 0), .d (I 0), .d (I 0), .d (.nilSl)]), (0, .var 25 (cv25 b))], 4, Fr.emp, [], 0⟩ (by kernel_rfl) ?_
   obtain rfl := Option.some.inj h
   have ew : wr (i + 1) = i + 1 := inext (N := (b.Trials.length : Int)) (by omega) (by omega) (by omega)
   rw [ew]
   exact hK_2 _ (Can.kp (by kernel_rfl))
 ·subst hout
  refine AW.seqK (fun K_12 hK_12 => ?_)
  refine AW.srwK (fun Q_13 hQ_13 => ?_)
  refine RW.au fokW 3 [] ⟨[(1, .d (.sl 1 (List.map e3 l))), (2, .ptr 0 0), (4, .ptr 1 0), (5, .ptr 2 0), (6, .d (I i)), (9, .d (I i)), (11, .d (.sl 3 (List.map e65 b.Trials)))], [(2, .var 25 [.d (I b.Kind), .d (I b.Front), .d (I b.Back), .d (I b.Radius), .d (.sl 4 (List.map e70 b.Parts)), .d (I b.Along), .d (I b.High), .d (I b.Lean_), .d (I b.Limit), .own 3 (List.map e65 l1).length]), (3, .row 65 3 (List.map e65 l1)), (1, .var 25 [.d (I 0), .d (I 0), .d (I 0), .d (I 0), .d (.nilSl), .d (I 0), .d (I 0), .d (I 0), .d (I 0), .d (.nilSl)]), (0, .var 25 (cv25 b))], 4, Fr.emp, [], 0⟩ (by kernel_rfl) ?_
  refine RW.one fokW (r_lenX trivial rfl lenm (r_end ?_))
  refine RW.au fokW 1 [] ⟨[(1, .d (.sl 1 (List.map e3 l))), (2, .ptr 0 0), (4, .ptr 1 0), (5, .ptr 2 0), (6, .d (I i)), (13, .d (.bool (decide (i < (b.Trials.length : Int)))))], [(2, .var 25 [.d (I b.Kind), .d (I b.Front), .d (I b.Back), .d (I b.Radius), .d (.sl 4 (List.map e70 b.Parts)), .d (I b.Along), .d (I b.High), .d (I b.Lean_), .d (I b.Limit), .own 3 (List.map e65 l1).length]), (3, .row 65 3 (List.map e65 l1)), (1, .var 25 [.d (I 0), .d (I 0), .d (I 0), .d (I 0), .d (.nilSl), .d (I 0), .d (I 0), .d (I 0), .d (I 0), .d (.nilSl)]), (0, .var 25 (cv25 b))], 4, Fr.emp, [], 0⟩ (by kernel_rfl) ?_
  refine RW.nil ?_
  refine hQ_13 _ ?_
  refine AW.cond rfl (fun hb_14 => False.elim (by have := of_decide_eq_true hb_14; omega)) (fun hb_14 => ?_)
  refine AW.exit ?_
  refine hK_1 _ ?_
  refine AW.sa fokW [] ⟨[(4, .ptr 1 0)], [(1, .var 25 [.d (I b.Kind), .d (I b.Front), .d (I b.Back), .d (I b.Radius), .d (.sl 4 (List.map e70 b.Parts)), .d (I b.Along), .d (I b.High), .d (I b.Lean_), .d (I b.Limit), .own 3 (List.map e65 l1).length]), (3, .row 65 3 (List.map e65 l1))], 4, Fr.emp, [], 0⟩ (by kernel_rfl) ?_
  obtain rfl := Option.some.inj h
  exact AW.ret (hR_0 _ (retX (.cons (.agg rfl rfl (Nat.le_of_ble_eq_true rfl)) .nil) (Frz.agg_of ⟨.refl _, .refl _, .refl _, .refl _, .refl _, .refl _, .refl _, .refl _, .refl _, (.own rfl rfl), trivial⟩) rfl (by kernel_rfl) (by kernel_rfl)))
def g14 (b : StandBook) (n : Int) : Option Bool := (g35 b).bind fun (r0_2, r1_2) => (g38 b).bind fun r0_14 => bif (!r0_14) then ((bif (decide (r1_2 = 20)) then (some (decide ((r0_2.length : Int) = 0))) else (some false)).bind fun v => (bif v then ((g24).bind fun t2 => some t2) else (some false)).bind fun v1 => some v1) else ((g16 b).bind fun (r0_1, r1_1) => (bif ((decide (r1_2 ≠ 0)) || (decide (r1_1 ≠ 0))) then (some true) else ((g51 r0_2 (b.Trials.length : Int)).bind fun r0_1_1 => some (!r0_1_1))).bind fun v2 => (bif v2 then (some true) else (some (true != ((decide ((r0_2.length : Int) = 0)) == r0_1)))).bind fun v3 => bif v3 then (some false) else ((g52 b r0_2).bind fun r0 => (g16 r0).bind fun (r0_1_2, r1_1_1) => bif ((decide (r1_1_1 ≠ 0)) || (!r0_1_2)) then (some false) else ((must (decide (0 ≤ (b.Trials.length : Int)))).bind fun _ => (g41 n (shl64 1 (b.Trials.length : Int))).bind fun r0_2_1 => (g53 r0_2_1 (b.Trials.length : Int)).bind fun r0_1_3 => (g54 r0_1_3 r0_2).bind fun r0_2_2 => bif (!r0_2_2) then ((g24).bind fun t2_1 => some t2_1) else ((g52 b r0_1_3).bind fun r0_3 => (g16 r0_3).bind fun (r0_1_4, r1_1_2) => (bif ((decide (r1_1_2 = 0)) && (!r0_1_4)) then ((g24).bind fun t2_2 => some t2_2) else (some false)).bind fun v4 => some v4))))
theorem k14 (b : StandBook) (n : Int) (r : Bool) (h : g14 b n = some r) : SCall Tryd.prog Gs 14 [.agg (cv25 b), .d (I n)] [] 0 Fr.emp (.d (.bool r)) [] 0 Fr.emp := by
 unfold g14 at h
 refine SCall.mkK Tryd.func14 c14 rfl rfl (by kernel_rfl) (fun Q_0 hR_0 hN_0 => ?_)
 refine AW.sa fokW [] ⟨[(1, .d (I n)), (2, .ptr 0 0)], [(0, .var 25 (cv25 b))], 1, Fr.emp, [], 0⟩ (by kernel_rfl) ?_
 refine AW.srwK (fun Q_1 hQ_1 => ?_)
 refine RW.au fokW 1 [] ⟨[(1, .d (I n)), (2, .ptr 0 0), (15, .agg (cv25 b))], [(0, .var 25 (cv25 b))], 1, Fr.emp, [], 0⟩ (by kernel_rfl) ?_
 obtain ⟨⟨r0_2, r1_2⟩, hx_2, h⟩ := bsome h
 refine RW.one fokW (r_call trivial rfl (k35 b _ hx_2) rfl rfl (r_end ?_))
 refine RW.au fokW 5 [] ⟨[(1, .d (I n)), (2, .ptr 0 0), (5, .d (.sl 1 (List.map e3 r0_2))), (6, .d (I r1_2))], [(0, .var 25 (cv25 b))], 1, Fr.emp, [], 0⟩ (by kernel_rfl) ?_
 refine RW.nil ?_
 refine hQ_1 _ ?_
 refine AW.seqK (fun K_3 hK_3 => ?_)
 refine AW.srwK (fun Q_4 hQ_4 => ?_)
 refine RW.au fokW 1 [] ⟨[(1, .d (I n)), (2, .ptr 0 0), (5, .d (.sl 1 (List.map e3 r0_2))), (6, .d (I r1_2)), (19, .agg (cv25 b))], [(0, .var 25 (cv25 b))], 1, Fr.emp, [], 0⟩ (by kernel_rfl) ?_
 obtain ⟨r0_14, hx_5, h⟩ := bsome h
 refine RW.one fokW (r_call trivial rfl (k38 b _ hx_5) rfl rfl (r_end ?_))
 refine RW.au fokW 1 [] ⟨[(1, .d (I n)), (2, .ptr 0 0), (5, .d (.sl 1 (List.map e3 r0_2))), (6, .d (I r1_2)), (21, .d (.bool (!r0_14)))], [(0, .var 25 (cv25 b))], 1, Fr.emp, [], 0⟩ (by kernel_rfl) ?_
 refine RW.nil ?_
 refine hQ_4 _ ?_
 refine AW.cond rfl (fun hb_6 => ?_) (fun hb_6 => ?_)
 ·have h := ifT hb_6 h
  refine AW.srwK (fun Q_7 hQ_7 => ?_)
  refine RW.au fokW 3 [] ⟨[(5, .d (.sl 1 (List.map e3 r0_2))), (24, .d (.bool (decide (r1_2 = 20))))], [], 1, Fr.emp, [], 0⟩ (by kernel_rfl) ?_
  obtain ⟨v, hx_8, h⟩ := bsome h
  refine RW.cut fokW 4 (⟨[(28, .d (.bool v))], [], 0, Fr.emp, [], 0⟩) ?_ ?_
  ·refine r_split 24 rfl (fun hb_9 => ?_) (fun hb_9 => ?_)
   ·have h := ifT hb_9 hx_8
    refine RunC.auX 1 ⟨[(24, .d (.bool true)), (25, .d (.sl 1 (List.map e3 r0_2)))], [], 1, Fr.emp, [], 0⟩ (by kernel_rfl) ?_
    refine r_lenX rfl rfl lenm ?_
    refine RunC.auX 2 ⟨[(28, .d (.bool (decide ((r0_2.length : Int) = 0))))], [], 1, Fr.emp, [], 0⟩ (by kernel_rfl) ?_
    obtain rfl := Option.some.inj h
    refine RunC.finJ (Can.kp (by kernel_rfl))
   ·have h := ifF hb_9 hx_8
    refine RunC.auX 4 ⟨[(28, .d (.bool false))], [], 1, Fr.emp, [], 0⟩ (by kernel_rfl) ?_
    obtain rfl := Option.some.inj h
    refine RunC.finJ (Can.kp (by kernel_rfl))
  ·refine RW.au fokW 1 [] ⟨[(29, .d (.bool v))], [], 0, Fr.emp, [], 0⟩ (by kernel_rfl) ?_
   obtain ⟨v1, hx_10, h⟩ := bsome h
   refine RW.cut fokW 2 (⟨[(31, .d (.bool v1))], [], 0, Fr.emp, [], 0⟩) ?_ ?_
   ·refine r_split 29 rfl (fun hb_12 => ?_) (fun hb_12 => ?_)
    ·have h := ifT hb_12 hx_10
     obtain ⟨t2, hx_11, h⟩ := bsome h
     refine r_call rfl rfl (k24 _ hx_11) rfl rfl ?_
     refine RunC.auX 1 ⟨[(31, .d (.bool t2))], [], 0, Fr.emp, [], 0⟩ (by kernel_rfl) ?_
     obtain rfl := Option.some.inj h
     refine RunC.finJ (Can.kp (by kernel_rfl))
    ·have h := ifF hb_12 hx_10
     refine RunC.auX 2 ⟨[(31, .d (.bool false))], [], 0, Fr.emp, [], 0⟩ (by kernel_rfl) ?_
     obtain rfl := Option.some.inj h
     refine RunC.finJ (Can.kp (by kernel_rfl))
   ·refine RW.au fokW 1 [] ⟨[(4, .d (.bool v1))], [], 0, Fr.emp, [], 0⟩ (by kernel_rfl) ?_
    refine RW.nil ?_
    refine hQ_7 _ ?_
    obtain rfl := Option.some.inj h
    exact AW.ret (hR_0 _ (retX (.cons (.tmp rfl) .nil) (.refl _) rfl (by kernel_rfl) (by kernel_rfl)))
 ·have h := ifF hb_6 h
  refine AW.skip ?_
  refine hK_3 _ ?_
  refine AW.srwK (fun Q_13 hQ_13 => ?_)
  refine RW.au fokW 1 [] ⟨[(1, .d (I n)), (2, .ptr 0 0), (5, .d (.sl 1 (List.map e3 r0_2))), (6, .d (I r1_2)), (33, .agg (cv25 b))], [(0, .var 25 (cv25 b))], 1, Fr.emp, [], 0⟩ (by kernel_rfl) ?_
  obtain ⟨⟨r0_1, r1_1⟩, hx_14, h⟩ := bsome h
  refine RW.one fokW (r_call trivial rfl (k16 b _ hx_14) rfl rfl (r_end ?_))
  refine RW.au fokW 5 [] ⟨[(1, .d (I n)), (2, .ptr 0 0), (5, .d (.sl 1 (List.map e3 r0_2))), (6, .d (I r1_2)), (7, .d (.bool r0_1)), (8, .d (I r1_1))], [(0, .var 25 (cv25 b))], 1, Fr.emp, [], 0⟩ (by kernel_rfl) ?_
  refine RW.nil ?_
  refine hQ_13 _ ?_
  refine AW.seqK (fun K_15 hK_15 => ?_)
  refine AW.srwK (fun Q_16 hQ_16 => ?_)
  refine RW.au fokW 7 [39] ⟨[(1, .d (I n)), (2, .ptr 0 0), (5, .d (.sl 1 (List.map e3 r0_2))), (7, .d (.bool r0_1)), (43, .d (.bool ((decide (r1_2 ≠ 0)) || (decide (r1_1 ≠ 0)))))], [(0, .var 25 (cv25 b))], 1, Fr.emp, [], 0⟩ (by kernel_rfl) ?_
  obtain ⟨v2, hx_17, h⟩ := bsome h
  refine RW.cut fokW 7 (⟨[(1, .d (I n)), (2, .ptr 0 0), (5, .d (.sl 1 (List.map e3 r0_2))), (7, .d (.bool r0_1)), (50, .d (.bool v2))], [(0, .var 25 (cv25 b))], 1, Fr.emp, [], 0⟩) ?_ ?_
  ·refine r_split 43 rfl (fun hb_19 => ?_) (fun hb_19 => ?_)
   ·have h := ifT hb_19 hx_17
    refine RunC.auX 7 ⟨[(1, .d (I n)), (2, .ptr 0 0), (5, .d (.sl 1 (List.map e3 r0_2))), (7, .d (.bool r0_1)), (50, .d (.bool true))], [(0, .var 25 (cv25 b))], 1, Fr.emp, [], 0⟩ (by kernel_rfl) ?_
    obtain rfl := Option.some.inj h
    refine RunC.finJ (Can.kp (by kernel_rfl))
   ·have h := ifF hb_19 hx_17
    refine RunC.auX 3 ⟨[(1, .d (I n)), (2, .ptr 0 0), (5, .d (.sl 1 (List.map e3 r0_2))), (7, .d (.bool r0_1)), (43, .d (.bool false)), (44, .d (.sl 1 (List.map e3 r0_2))), (46, .d (.sl 3 (List.map e65 b.Trials)))], [(0, .var 25 (cv25 b))], 1, Fr.emp, [], 0⟩ (by kernel_rfl) ?_
    refine r_lenX rfl rfl lenm ?_
    obtain ⟨r0_1_1, hx_18, h⟩ := bsome h
    refine r_call rfl rfl (k51 r0_2 (b.Trials.length : Int) _ hx_18) rfl rfl ?_
    refine RunC.auX 2 ⟨[(1, .d (I n)), (2, .ptr 0 0), (5, .d (.sl 1 (List.map e3 r0_2))), (7, .d (.bool r0_1)), (50, .d (.bool (!r0_1_1)))], [(0, .var 25 (cv25 b))], 1, Fr.emp, [], 0⟩ (by kernel_rfl) ?_
    obtain rfl := Option.some.inj h
    refine RunC.finJ (Can.kp (by kernel_rfl))
  ·refine RW.au fokW 1 [] ⟨[(1, .d (I n)), (2, .ptr 0 0), (5, .d (.sl 1 (List.map e3 r0_2))), (7, .d (.bool r0_1)), (51, .d (.bool v2))], [(0, .var 25 (cv25 b))], 1, Fr.emp, [], 0⟩ (by kernel_rfl) ?_
   obtain ⟨v3, hx_20, h⟩ := bsome h
   refine RW.cut fokW 6 (⟨[(1, .d (I n)), (2, .ptr 0 0), (5, .d (.sl 1 (List.map e3 r0_2))), (57, .d (.bool v3))], [(0, .var 25 (cv25 b))], 1, Fr.emp, [], 0⟩) ?_ ?_
   ·refine r_split 51 rfl (fun hb_21 => ?_) (fun hb_21 => ?_)
    ·have h := ifT hb_21 hx_20
     refine RunC.auX 6 ⟨[(1, .d (I n)), (2, .ptr 0 0), (5, .d (.sl 1 (List.map e3 r0_2))), (57, .d (.bool true))], [(0, .var 25 (cv25 b))], 1, Fr.emp, [], 0⟩ (by kernel_rfl) ?_
     obtain rfl := Option.some.inj h
     refine RunC.finJ (Can.kp (by kernel_rfl))
    ·have h := ifF hb_21 hx_20
     refine RunC.auX 1 ⟨[(1, .d (I n)), (2, .ptr 0 0), (5, .d (.sl 1 (List.map e3 r0_2))), (7, .d (.bool r0_1)), (51, .d (.bool false)), (52, .d (.sl 1 (List.map e3 r0_2)))], [(0, .var 25 (cv25 b))], 1, Fr.emp, [], 0⟩ (by kernel_rfl) ?_
     refine r_lenX rfl rfl lenm ?_
     refine RunC.auX 4 ⟨[(1, .d (I n)), (2, .ptr 0 0), (5, .d (.sl 1 (List.map e3 r0_2))), (57, .d (.bool (true != ((decide ((r0_2.length : Int) = 0)) == r0_1))))], [(0, .var 25 (cv25 b))], 1, Fr.emp, [], 0⟩ (by kernel_rfl) ?_
     obtain rfl := Option.some.inj h
     refine RunC.finJ (Can.kp (by kernel_rfl))
   ·refine RW.nil ?_
    refine hQ_16 _ ?_
    refine AW.cond rfl (fun hb_22 => ?_) (fun hb_22 => ?_)
    ·have h := ifT hb_22 h
     refine AW.sa fokW [] ⟨[(4, .d (.bool false))], [], 1, Fr.emp, [], 0⟩ (by kernel_rfl) ?_
     obtain rfl := Option.some.inj h
     exact AW.ret (hR_0 _ (retX (.cons (.tmp rfl) .nil) (.refl _) rfl (by kernel_rfl) (by kernel_rfl)))
    ·have h := ifF hb_22 h
     refine AW.skip ?_
     refine hK_15 _ ?_
     refine AW.seqK (fun K_23 hK_23 => ?_)
     refine AW.srwK (fun Q_24 hQ_24 => ?_)
     refine RW.au fokW 2 [] ⟨[(1, .d (I n)), (2, .ptr 0 0), (5, .d (.sl 1 (List.map e3 r0_2))), (59, .agg (cv25 b)), (60, .d (.sl 1 (List.map e3 r0_2)))], [(0, .var 25 (cv25 b))], 1, Fr.emp, [], 0⟩ (by kernel_rfl) ?_
     obtain ⟨r0, hx_25, h⟩ := bsome h
     refine RW.one fokW (r_call trivial rfl (k52 b r0_2 _ hx_25) rfl rfl (r_end ?_))
     obtain ⟨⟨r0_1_2, r1_1_1⟩, hx_26, h⟩ := bsome h
     refine RW.one fokW (r_call trivial rfl (k16 r0 _ hx_26) rfl rfl (r_end ?_))
     refine RW.au fokW 5 [] ⟨[(1, .d (I n)), (2, .ptr 0 0), (5, .d (.sl 1 (List.map e3 r0_2))), (9, .d (.bool r0_1_2)), (10, .d (I r1_1_1))], [(0, .var 25 (cv25 b))], 1, Fr.emp, [], 0⟩ (by kernel_rfl) ?_
     refine RW.nil ?_
     refine hQ_24 _ ?_
     refine AW.sa fokW [67] ⟨[(1, .d (I n)), (2, .ptr 0 0), (5, .d (.sl 1 (List.map e3 r0_2))), (70, .d (.bool ((decide (r1_1_1 ≠ 0)) || (!r0_1_2))))], [(0, .var 25 (cv25 b))], 1, Fr.emp, [], 0⟩ (by kernel_rfl) ?_
     refine AW.cond rfl (fun hb_27 => ?_) (fun hb_27 => ?_)
     ·have h := ifT hb_27 h
      refine AW.sa fokW [] ⟨[(4, .d (.bool false))], [], 1, Fr.emp, [], 0⟩ (by kernel_rfl) ?_
      obtain rfl := Option.some.inj h
      exact AW.ret (hR_0 _ (retX (.cons (.tmp rfl) .nil) (.refl _) rfl (by kernel_rfl) (by kernel_rfl)))
     ·have h := ifF hb_27 h
      refine AW.skip ?_
      refine hK_23 _ ?_
      refine AW.sdrwK fokW (fun Q_28 hQ_28 => ?_)
      refine RunC.auX 3 ⟨[(2, .ptr 0 0), (5, .d (.sl 1 (List.map e3 r0_2))), (71, .d (I n)), (73, .d (.sl 3 (List.map e65 b.Trials)))], [(0, .var 25 (cv25 b))], 1, Fr.emp, [], 0⟩ (by kernel_rfl) ?_
      refine r_lenX trivial rfl lenm ?_
      obtain ⟨_, hv_29, h⟩ := bsome h
      refine r_sh trivial rfl rfl (shl64_ok (of_decide_eq_true (must_ok hv_29))) ?_
      obtain ⟨r0_2_1, hx_30, h⟩ := bsome h
      refine r_call trivial rfl (k41 n (shl64 1 (b.Trials.length : Int)) _ hx_30) rfl rfl ?_
      refine RunC.auX 2 ⟨[(2, .ptr 0 0), (5, .d (.sl 1 (List.map e3 r0_2))), (76, .d (I r0_2_1)), (78, .d (.sl 3 (List.map e65 b.Trials)))], [(0, .var 25 (cv25 b))], 1, Fr.emp, [], 0⟩ (by kernel_rfl) ?_
      refine r_lenX trivial rfl lenm ?_
      obtain ⟨r0_1_3, hx_31, h⟩ := bsome h
      refine r_call trivial rfl (k53 r0_2_1 (b.Trials.length : Int) _ hx_31) rfl rfl ?_
      refine RunC.auX 1 ⟨[(2, .ptr 0 0), (5, .d (.sl 1 (List.map e3 r0_2))), (11, .d (.sl 1 (List.map e3 r0_1_3)))], [(0, .var 25 (cv25 b))], 1, Fr.emp, [], 0⟩ (by kernel_rfl) ?_
      refine RunC.fin ⟨[(2, .ptr 0 0), (5, .d (.sl 1 (List.map e3 r0_2))), (11, .d (.sl 1 (List.map e3 r0_1_3)))], [(0, .var 25 (cv25 b))], 1, Fr.emp, [], 0⟩ (by kernel_rfl) (by kernel_rfl) ?_
      refine hQ_28 _ ?_
      refine AW.seqK (fun K_32 hK_32 => ?_)
      refine AW.srwK (fun Q_33 hQ_33 => ?_)
      refine RW.au fokW 2 [] ⟨[(2, .ptr 0 0), (11, .d (.sl 1 (List.map e3 r0_1_3))), (81, .d (.sl 1 (List.map e3 r0_1_3))), (82, .d (.sl 1 (List.map e3 r0_2)))], [(0, .var 25 (cv25 b))], 1, Fr.emp, [], 0⟩ (by kernel_rfl) ?_
      obtain ⟨r0_2_2, hx_34, h⟩ := bsome h
      refine RW.one fokW (r_call trivial rfl (k54 r0_1_3 r0_2 _ hx_34) rfl rfl (r_end ?_))
      refine RW.au fokW 1 [] ⟨[(2, .ptr 0 0), (11, .d (.sl 1 (List.map e3 r0_1_3))), (84, .d (.bool (!r0_2_2)))], [(0, .var 25 (cv25 b))], 1, Fr.emp, [], 0⟩ (by kernel_rfl) ?_
      refine RW.nil ?_
      refine hQ_33 _ ?_
      refine AW.cond rfl (fun hb_35 => ?_) (fun hb_35 => ?_)
      ·have h := ifT hb_35 h
       refine AW.srwK (fun Q_36 hQ_36 => ?_)
       obtain ⟨t2_1, hx_37, h⟩ := bsome h
       refine RW.one fokW (r_call trivial rfl (k24 _ hx_37) rfl rfl (r_end ?_))
       refine RW.au fokW 1 [] ⟨[(4, .d (.bool t2_1))], [], 1, Fr.emp, [], 0⟩ (by kernel_rfl) ?_
       refine RW.nil ?_
       refine hQ_36 _ ?_
       obtain rfl := Option.some.inj h
       exact AW.ret (hR_0 _ (retX (.cons (.tmp rfl) .nil) (.refl _) rfl (by kernel_rfl) (by kernel_rfl)))
      ·have h := ifF hb_35 h
       refine AW.skip ?_
       refine hK_32 _ ?_
       refine AW.srwK (fun Q_38 hQ_38 => ?_)
       refine RW.au fokW 2 [] ⟨[(87, .agg (cv25 b)), (88, .d (.sl 1 (List.map e3 r0_1_3)))], [], 1, Fr.emp, [], 0⟩ (by kernel_rfl) ?_
       obtain ⟨r0_3, hx_39, h⟩ := bsome h
       refine RW.one fokW (r_call trivial rfl (k52 b r0_1_3 _ hx_39) rfl rfl (r_end ?_))
       obtain ⟨⟨r0_1_4, r1_1_2⟩, hx_40, h⟩ := bsome h
       refine RW.one fokW (r_call trivial rfl (k16 r0_3 _ hx_40) rfl rfl (r_end ?_))
       refine RW.au fokW 5 [] ⟨[(12, .d (.bool r0_1_4)), (13, .d (I r1_1_2))], [], 1, Fr.emp, [], 0⟩ (by kernel_rfl) ?_
       refine RW.nil ?_
       refine hQ_38 _ ?_
       refine AW.srwK (fun Q_41 hQ_41 => ?_)
       refine RW.au fokW 7 [95] ⟨[(99, .d (.bool ((decide (r1_1_2 = 0)) && (!r0_1_4))))], [], 1, Fr.emp, [], 0⟩ (by kernel_rfl) ?_
       obtain ⟨v4, hx_42, h⟩ := bsome h
       refine RW.cut fokW 2 (⟨[(101, .d (.bool v4))], [], 0, Fr.emp, [], 0⟩) ?_ ?_
       ·refine r_split 99 rfl (fun hb_44 => ?_) (fun hb_44 => ?_)
        ·have h := ifT hb_44 hx_42
         obtain ⟨t2_2, hx_43, h⟩ := bsome h
         refine r_call rfl rfl (k24 _ hx_43) rfl rfl ?_
         refine RunC.auX 1 ⟨[(101, .d (.bool t2_2))], [], 1, Fr.emp, [], 0⟩ (by kernel_rfl) ?_
         obtain rfl := Option.some.inj h
         refine RunC.finJ (Can.kp (by kernel_rfl))
        ·have h := ifF hb_44 hx_42
         refine RunC.auX 2 ⟨[(101, .d (.bool false))], [], 1, Fr.emp, [], 0⟩ (by kernel_rfl) ?_
         obtain rfl := Option.some.inj h
         refine RunC.finJ (Can.kp (by kernel_rfl))
       ·refine RW.au fokW 1 [] ⟨[(4, .d (.bool v4))], [], 0, Fr.emp, [], 0⟩ (by kernel_rfl) ?_
        refine RW.nil ?_
        refine hQ_41 _ ?_
        obtain rfl := Option.some.inj h
        exact AW.ret (hR_0 _ (retX (.cons (.tmp rfl) .nil) (.refl _) rfl (by kernel_rfl) (by kernel_rfl)))
end Go.Proofs.Tz
