/- Told functions, and that the program does so, part 2. Conditions: none. -/
import Derived.Test.YtonjadhpjkbhnaaDoorTda
set_option linter.unusedVariables false
set_option linter.unusedSimpArgs false
namespace Go.Proofs.Th
open Go Go.Abs Go.Proofs
def g112_16 {S_ : Type} (rec_ : (List Int) → (Nat → Int) → HairBook → (List (Hair_dye × Span)) → HairBook → (List (Hair_dye × Span)) → S_ → Option (Bool × S_)) (plan : (List Int)) (cut : (Nat → Int)) (o0_HairBook : HairBook) (mf : List (Hair_dye × Span)) (m0_HairBook : HairBook) (mf_1 : List (Hair_dye × Span)) (need : Int) : Int → HairHank → S_ → Option (Ctl (S_) (Bool × S_)) := fun v p2 s_2 => bindC ((ixN 5 v).bind fun j1 => (g107 p2.Weight).bind fun r0_2 => bif (decide (r0_2 < (wr ((cut j1) + need)))) then (some (.brk (.next s_2))) else (bif (decide (((plan.length : Int).tmod 2) = 1)) then ((ixL plan (wr ((plan.length : Int) - 1))).bind fun p3 => (g89 m0_HairBook mf_1 (wr ((plan.length : Int).tdiv 2)) p3 v).bind fun r0_3 => bif (!r0_3) then (some (.brk (.next s_2))) else (some (.next ()))) else (some (.next ()))) : Option (Ctl (Unit) (Ctl (S_) (Bool × S_)))) fun _ => (ixN 5 v).bind fun j2 => (ixN 5 v).bind fun j3 => (slcL plan 0 (plan.length : Int)).bind fun l => (appL 8 l [v]).bind fun l1 => (rec_ l1 (aset cut j3 (wr ((cut j2) + need))) o0_HairBook mf m0_HairBook mf_1 s_2).bind fun (r0_7_1, s_5_1) => bif (!r0_7_1) then (some (.brk (false, s_5_1))) else (some (.next s_5_1))
def g112 {S_ : Type} (c_ : (List Int) → (Nat → Int) → S_ → Option (S_ × Bool)) : Nat → (List Int) → (Nat → Int) → HairBook → (List (Hair_dye × Span)) → HairBook → (List (Hair_dye × Span)) → S_ → Option (Bool × S_)
 | 0, _, _, _, _, _, _, _ => none
 | n_ + 1, plan, cut, o0_HairBook, mf, m0_HairBook, mf_1, s_ => bif (decide ((plan.length : Int) = (wr (2 * (o0_HairBook.Horses.length : Int))))) then ((c_ plan cut s_).bind fun (s_1, go) => some (go, s_1)) else (((ixN 2 ((plan.length : Int).tmod 2)).bind fun j => match j with | 0 => (ixL o0_HairBook.Horses (wr ((plan.length : Int).tdiv 2))).bind fun p => (g133 p).bind fun r0 => some r0 | 1 => (ixL o0_HairBook.Horses (wr ((plan.length : Int).tdiv 2))).bind fun p1 => (g135 p1).bind fun r0_1 => some r0_1 | _ => none).bind fun need => bindC (eachC (g112_16 (g112 c_ n_) plan cut o0_HairBook mf m0_HairBook mf_1 need) o0_HairBook.Hanks 0 s_) fun s_2 => some (true, s_2))
theorem k112 {S_ : Type} (fr_ : S_ → Fr) (c_ : (List Int) → (Nat → Int) → S_ → Option (S_ × Bool)) (hc_ : ∀ (a0 : (List Int)) (a1 : (Nat → Int)) s s2 b, c_ a0 a1 s = some (s2, b) → YCall Tryd.prog Gs (fr_ s) [.d (.sl 1 (List.map e3 a0)), .agg [.d (I (a1 0)), .d (I (a1 1)), .d (I (a1 2)), .d (I (a1 3)), .d (I (a1 4))]] (.d (.bool b)) (fr_ s2)) : ∀ (n_ : Nat) (plan : (List Int)) (cut : (Nat → Int)) (o0_HairBook : HairBook) (mf : List (Hair_dye × Span)) (m0_HairBook : HairBook) (mf_1 : List (Hair_dye × Span)) (s_ : S_) (r : Bool × S_) (h : g112 c_ n_ plan cut o0_HairBook mf m0_HairBook mf_1 s_ = some r), SCall Tryd.prog Gs 112 [.d (.sl 1 (List.map e3 plan)), .agg [.d (I (cut 0)), .d (I (cut 1)), .d (I (cut 2)), .d (I (cut 3)), .d (I (cut 4))], .ptr 0 0, .ptr 1 0, .ptr 2 0, .ptr 3 0, .ptr 4 0] [(0, .var 78 (catV (cv25 o0_HairBook) [.fmp (List.map m84_35 mf)])), (1, .var 127 [.yld]), (2, .var 99 [.d (.fn 107)]), (3, .var 65 [.clo 89 [.agg [.d (.sl 4 (List.map e58 m0_HairBook.Hanks)), .d (.sl 3 (List.map e69 m0_HairBook.Horses)), .d (I m0_HairBook.Dark), .d (I m0_HairBook.Near), .d (I m0_HairBook.Match), .fmp (List.map m84_35 mf_1)]] []]), (4, .var 127 [.clo 112 [] [.ptr 0 0, .ptr 1 0, .ptr 2 0, .ptr 3 0, .ptr 4 0]])] 5 (fr_ s_) (match r with | (r0_7, s_5) => .d (.bool r0_7)) (match r with | (r0_7, s_5) => [(0, .var 78 (catV (cv25 o0_HairBook) [.fmp (List.map m84_35 mf)])), (1, .var 127 [.yld]), (2, .var 99 [.d (.fn 107)]), (3, .var 65 [.clo 89 [.agg [.d (.sl 4 (List.map e58 m0_HairBook.Hanks)), .d (.sl 3 (List.map e69 m0_HairBook.Horses)), .d (I m0_HairBook.Dark), .d (I m0_HairBook.Near), .d (I m0_HairBook.Match), .fmp (List.map m84_35 mf_1)]] []]), (4, .var 127 [.clo 112 [] [.ptr 0 0, .ptr 1 0, .ptr 2 0, .ptr 3 0, .ptr 4 0]])]) 5 (fr_ (match r with | (r0_7, s_5) => s_5)) := by
 intro n_
 induction n_ with
 | zero => intro plan cut o0_HairBook mf m0_HairBook mf_1 s_ r h; cases h
 | succ n_ ih =>
  intro plan cut o0_HairBook mf m0_HairBook mf_1 s_ r h
  rw [g112] at h
  refine SCall.mkK Tryd.func112 c112 rfl rfl (by kernel_rfl) (fun Q_0 hR_0 hN_0 => ?_)
  refine AW.sa fokW [] ⟨[(0, .d (.sl 1 (List.map e3 plan))), (2, .ptr 0 0), (3, .ptr 1 0), (4, .ptr 2 0), (5, .ptr 3 0), (6, .ptr 4 0), (8, .ptr 5 0)], [(5, .var 92 [.d (I (cut 0)), .d (I (cut 1)), .d (I (cut 2)), .d (I (cut 3)), .d (I (cut 4))]), (0, .var 78 (catV (cv25 o0_HairBook) [.fmp (List.map m84_35 mf)])), (1, .var 127 [.yld]), (2, .var 99 [.d (.fn 107)]), (3, .var 65 [.clo 89 [.agg [.d (.sl 4 (List.map e58 m0_HairBook.Hanks)), .d (.sl 3 (List.map e69 m0_HairBook.Horses)), .d (I m0_HairBook.Dark), .d (I m0_HairBook.Near), .d (I m0_HairBook.Match), .fmp (List.map m84_35 mf_1)]] []]), (4, .var 127 [.clo 112 [] [.ptr 0 0, .ptr 1 0, .ptr 2 0, .ptr 3 0, .ptr 4 0]])], 6, (fr_ s_), [], 5⟩ (by kernel_rfl) ?_
  refine AW.scope ?_
  refine AW.srwK (fun Q_1 hQ_1 => ?_)
  refine RW.au fokW 1 [] ⟨[(0, .d (.sl 1 (List.map e3 plan))), (2, .ptr 0 0), (3, .ptr 1 0), (4, .ptr 2 0), (5, .ptr 3 0), (6, .ptr 4 0), (8, .ptr 5 0), (15, .d (.sl 1 (List.map e3 plan)))], [(5, .var 92 [.d (I (cut 0)), .d (I (cut 1)), .d (I (cut 2)), .d (I (cut 3)), .d (I (cut 4))]), (0, .var 78 (catV (cv25 o0_HairBook) [.fmp (List.map m84_35 mf)])), (1, .var 127 [.yld]), (2, .var 99 [.d (.fn 107)]), (3, .var 65 [.clo 89 [.agg [.d (.sl 4 (List.map e58 m0_HairBook.Hanks)), .d (.sl 3 (List.map e69 m0_HairBook.Horses)), .d (I m0_HairBook.Dark), .d (I m0_HairBook.Near), .d (I m0_HairBook.Match), .fmp (List.map m84_35 mf_1)]] []]), (4, .var 127 [.clo 112 [] [.ptr 0 0, .ptr 1 0, .ptr 2 0, .ptr 3 0, .ptr 4 0]])], 6, (fr_ s_), [], 5⟩ (by kernel_rfl) ?_
  refine RW.one fokW (r_lenX trivial rfl lenm (r_end ?_))
  refine RW.au fokW 1 [] ⟨[(0, .d (.sl 1 (List.map e3 plan))), (2, .ptr 0 0), (3, .ptr 1 0), (4, .ptr 2 0), (5, .ptr 3 0), (6, .ptr 4 0), (8, .ptr 5 0), (10, .d (I (plan.length : Int)))], [(5, .var 92 [.d (I (cut 0)), .d (I (cut 1)), .d (I (cut 2)), .d (I (cut 3)), .d (I (cut 4))]), (0, .var 78 (catV (cv25 o0_HairBook) [.fmp (List.map m84_35 mf)])), (1, .var 127 [.yld]), (2, .var 99 [.d (.fn 107)]), (3, .var 65 [.clo 89 [.agg [.d (.sl 4 (List.map e58 m0_HairBook.Hanks)), .d (.sl 3 (List.map e69 m0_HairBook.Horses)), .d (I m0_HairBook.Dark), .d (I m0_HairBook.Near), .d (I m0_HairBook.Match), .fmp (List.map m84_35 mf_1)]] []]), (4, .var 127 [.clo 112 [] [.ptr 0 0, .ptr 1 0, .ptr 2 0, .ptr 3 0, .ptr 4 0]])], 6, (fr_ s_), [], 5⟩ (by kernel_rfl) ?_
  refine RW.nil ?_
  refine hQ_1 _ ?_
  refine AW.seqK (fun K_2 hK_2 => ?_)
  refine AW.srwK (fun Q_3 hQ_3 => ?_)
  refine RW.au fokW 4 [] ⟨[(0, .d (.sl 1 (List.map e3 plan))), (2, .ptr 0 0), (3, .ptr 1 0), (4, .ptr 2 0), (5, .ptr 3 0), (6, .ptr 4 0), (8, .ptr 5 0), (10, .d (I (plan.length : Int))), (17, .d (I (plan.length : Int))), (20, .d (.sl 3 (List.map e69 o0_HairBook.Horses)))], [(5, .var 92 [.d (I (cut 0)), .d (I (cut 1)), .d (I (cut 2)), .d (I (cut 3)), .d (I (cut 4))]), (0, .var 78 (catV (cv25 o0_HairBook) [.fmp (List.map m84_35 mf)])), (1, .var 127 [.yld]), (2, .var 99 [.d (.fn 107)]), (3, .var 65 [.clo 89 [.agg [.d (.sl 4 (List.map e58 m0_HairBook.Hanks)), .d (.sl 3 (List.map e69 m0_HairBook.Horses)), .d (I m0_HairBook.Dark), .d (I m0_HairBook.Near), .d (I m0_HairBook.Match), .fmp (List.map m84_35 mf_1)]] []]), (4, .var 127 [.clo 112 [] [.ptr 0 0, .ptr 1 0, .ptr 2 0, .ptr 3 0, .ptr 4 0]])], 6, (fr_ s_), [], 5⟩ (by kernel_rfl) ?_
  refine RW.one fokW (r_lenX trivial rfl lenm (r_end ?_))
  refine RW.au fokW 2 [] ⟨[(0, .d (.sl 1 (List.map e3 plan))), (2, .ptr 0 0), (3, .ptr 1 0), (4, .ptr 2 0), (5, .ptr 3 0), (6, .ptr 4 0), (8, .ptr 5 0), (10, .d (I (plan.length : Int))), (23, .d (.bool (decide ((plan.length : Int) = (wr (2 * (o0_HairBook.Horses.length : Int)))))))], [(5, .var 92 [.d (I (cut 0)), .d (I (cut 1)), .d (I (cut 2)), .d (I (cut 3)), .d (I (cut 4))]), (0, .var 78 (catV (cv25 o0_HairBook) [.fmp (List.map m84_35 mf)])), (1, .var 127 [.yld]), (2, .var 99 [.d (.fn 107)]), (3, .var 65 [.clo 89 [.agg [.d (.sl 4 (List.map e58 m0_HairBook.Hanks)), .d (.sl 3 (List.map e69 m0_HairBook.Horses)), .d (I m0_HairBook.Dark), .d (I m0_HairBook.Near), .d (I m0_HairBook.Match), .fmp (List.map m84_35 mf_1)]] []]), (4, .var 127 [.clo 112 [] [.ptr 0 0, .ptr 1 0, .ptr 2 0, .ptr 3 0, .ptr 4 0]])], 6, (fr_ s_), [], 5⟩ (by kernel_rfl) ?_
  refine RW.nil ?_
  refine hQ_3 _ ?_
  refine AW.cond rfl (fun hb_4 => ?_) (fun hb_4 => ?_)
  ·have h := ifT hb_4 h
   refine AW.srwK (fun Q_5 hQ_5 => ?_)
   refine RW.au fokW 3 [] ⟨[(24, .yld), (25, .d (.sl 1 (List.map e3 plan))), (26, .agg [.d (I (cut 0)), .d (I (cut 1)), .d (I (cut 2)), .d (I (cut 3)), .d (I (cut 4))])], [(0, .var 78 (catV (cv25 o0_HairBook) [.fmp (List.map m84_35 mf)])), (1, .var 127 [.yld]), (2, .var 99 [.d (.fn 107)]), (3, .var 65 [.clo 89 [.agg [.d (.sl 4 (List.map e58 m0_HairBook.Hanks)), .d (.sl 3 (List.map e69 m0_HairBook.Horses)), .d (I m0_HairBook.Dark), .d (I m0_HairBook.Near), .d (I m0_HairBook.Match), .fmp (List.map m84_35 mf_1)]] []]), (4, .var 127 [.clo 112 [] [.ptr 0 0, .ptr 1 0, .ptr 2 0, .ptr 3 0, .ptr 4 0]])], 6, (fr_ s_), [], 5⟩ (by kernel_rfl) ?_
   obtain ⟨⟨s_1, go⟩, hx_6, h⟩ := bsome h
   refine RW.one fokW (r_yield (zr := []) trivial rfl rfl (hc_ plan cut _ _ _ hx_6) trivial ⟨.refl _, .refl _, trivial⟩ rfl rfl rfl rfl (r_end ?_))
   refine RW.au fokW 1 [] ⟨[(9, .d (.bool go))], [(0, .var 78 (catV (cv25 o0_HairBook) [.fmp (List.map m84_35 mf)])), (1, .var 127 [.yld]), (2, .var 99 [.d (.fn 107)]), (3, .var 65 [.clo 89 [.agg [.d (.sl 4 (List.map e58 m0_HairBook.Hanks)), .d (.sl 3 (List.map e69 m0_HairBook.Horses)), .d (I m0_HairBook.Dark), .d (I m0_HairBook.Near), .d (I m0_HairBook.Match), .fmp (List.map m84_35 mf_1)]] []]), (4, .var 127 [.clo 112 [] [.ptr 0 0, .ptr 1 0, .ptr 2 0, .ptr 3 0, .ptr 4 0]])], 6, (fr_ s_1), [], 5⟩ (by kernel_rfl) ?_
   refine RW.nil ?_
   refine hQ_5 _ ?_
   obtain rfl := Option.some.inj h
   exact AW.ret (hR_0 _ (retX (.cons (.tmp rfl) .nil) (.refl _) rfl (by kernel_rfl) (by kernel_rfl)))
  ·have h := ifF hb_4 h
   refine AW.skip ?_
   refine hK_2 _ ?_
   obtain ⟨need, hx_7, h⟩ := bsome h
   refine AW.jnSK (fun (need : Int) => ⟨[(0, .d (.sl 1 (List.map e3 plan))), (2, .ptr 0 0), (4, .ptr 2 0), (5, .ptr 3 0), (6, .ptr 4 0), (8, .ptr 5 0), (10, .d (I (plan.length : Int))), (11, .d (I need))], [(5, .var 92 [.d (I (cut 0)), .d (I (cut 1)), .d (I (cut 2)), .d (I (cut 3)), .d (I (cut 4))]), (0, .var 78 (catV (cv25 o0_HairBook) [.fmp (List.map m84_35 mf)])), (1, .var 127 [.yld]), (2, .var 99 [.d (.fn 107)]), (3, .var 65 [.clo 89 [.agg [.d (.sl 4 (List.map e58 m0_HairBook.Hanks)), .d (.sl 3 (List.map e69 m0_HairBook.Horses)), .d (I m0_HairBook.Dark), .d (I m0_HairBook.Near), .d (I m0_HairBook.Match), .fmp (List.map m84_35 mf_1)]] []]), (4, .var 127 [.clo 112 [] [.ptr 0 0, .ptr 1 0, .ptr 2 0, .ptr 3 0, .ptr 4 0]])], 6, (fr_ s_), [], 5⟩) (c := need) (fun K_7 hK_7 => ?_) ?_
   ·have h := hx_7
    refine AW.drw fokW ?_
    refine RunC.auX 2 ⟨[(0, .d (.sl 1 (List.map e3 plan))), (2, .ptr 0 0), (4, .ptr 2 0), (5, .ptr 3 0), (6, .ptr 4 0), (8, .ptr 5 0), (10, .d (I (plan.length : Int))), (29, .d (I ((plan.length : Int).tmod 2)))], [(5, .var 92 [.d (I (cut 0)), .d (I (cut 1)), .d (I (cut 2)), .d (I (cut 3)), .d (I (cut 4))]), (0, .var 78 (catV (cv25 o0_HairBook) [.fmp (List.map m84_35 mf)])), (1, .var 127 [.yld]), (2, .var 99 [.d (.fn 107)]), (3, .var 65 [.clo 89 [.agg [.d (.sl 4 (List.map e58 m0_HairBook.Hanks)), .d (.sl 3 (List.map e69 m0_HairBook.Horses)), .d (I m0_HairBook.Dark), .d (I m0_HairBook.Near), .d (I m0_HairBook.Match), .fmp (List.map m84_35 mf_1)]] []]), (4, .var 127 [.clo 112 [] [.ptr 0 0, .ptr 1 0, .ptr 2 0, .ptr 3 0, .ptr 4 0]])], 6, (fr_ s_), [], 5⟩ (by kernel_rfl) ?_
    obtain ⟨j, hv_9, h⟩ := bsome h
    rcases j with _ | _ | j
    ·refine r_iaF trivial rfl rfl (ixN_ok hv_9).1 (ixN_ok hv_9).2.1 ?_
     refine r_loadF trivial rfl (u := .fn 133) (by rw [(ixN_ok hv_9).2.2]; rfl) ?_
     refine RunC.auX 5 ⟨[(0, .d (.sl 1 (List.map e3 plan))), (2, .ptr 0 0), (4, .ptr 2 0), (5, .ptr 3 0), (6, .ptr 4 0), (8, .ptr 5 0), (10, .d (I (plan.length : Int))), (31, .d (.fn 133)), (34, .d (.sl 3 (List.map e69 o0_HairBook.Horses))), (36, .d (I (wr ((plan.length : Int).tdiv 2))))], [(5, .var 92 [.d (I (cut 0)), .d (I (cut 1)), .d (I (cut 2)), .d (I (cut 3)), .d (I (cut 4))]), (0, .var 78 (catV (cv25 o0_HairBook) [.fmp (List.map m84_35 mf)])), (1, .var 127 [.yld]), (2, .var 99 [.d (.fn 107)]), (3, .var 65 [.clo 89 [.agg [.d (.sl 4 (List.map e58 m0_HairBook.Hanks)), .d (.sl 3 (List.map e69 m0_HairBook.Horses)), .d (I m0_HairBook.Dark), .d (I m0_HairBook.Near), .d (I m0_HairBook.Match), .fmp (List.map m84_35 mf_1)]] []]), (4, .var 127 [.clo 112 [] [.ptr 0 0, .ptr 1 0, .ptr 2 0, .ptr 3 0, .ptr 4 0]])], 6, (fr_ s_), [], 5⟩ (by kernel_rfl) ?_
     obtain ⟨p, hv_10, h⟩ := bsome h
     refine r_iaD trivial rfl rfl (ixL_ok hv_10).1 (row := e69 p) (mapget (ixL_ok hv_10).2) ?_
     refine RunC.auX 1 ⟨[(0, .d (.sl 1 (List.map e3 plan))), (2, .ptr 0 0), (4, .ptr 2 0), (5, .ptr 3 0), (6, .ptr 4 0), (8, .ptr 5 0), (10, .d (I (plan.length : Int))), (31, .d (.fn 133)), (38, .agg [.d (I p.Mane), .d (I p.Tail), .d (I p.Shade)])], [(5, .var 92 [.d (I (cut 0)), .d (I (cut 1)), .d (I (cut 2)), .d (I (cut 3)), .d (I (cut 4))]), (0, .var 78 (catV (cv25 o0_HairBook) [.fmp (List.map m84_35 mf)])), (1, .var 127 [.yld]), (2, .var 99 [.d (.fn 107)]), (3, .var 65 [.clo 89 [.agg [.d (.sl 4 (List.map e58 m0_HairBook.Hanks)), .d (.sl 3 (List.map e69 m0_HairBook.Horses)), .d (I m0_HairBook.Dark), .d (I m0_HairBook.Near), .d (I m0_HairBook.Match), .fmp (List.map m84_35 mf_1)]] []]), (4, .var 127 [.clo 112 [] [.ptr 0 0, .ptr 1 0, .ptr 2 0, .ptr 3 0, .ptr 4 0]])], 6, (fr_ s_), [], 5⟩ (by kernel_rfl) ?_
     obtain ⟨r0, hx_11, h⟩ := bsome h
     refine r_callvZ (zr := []) trivial rfl (.fn _) (by kernel_rfl) rfl (k133 p _ hx_11) trivial ⟨.refl _, trivial⟩ rfl rfl rfl rfl ?_
     refine RunC.auX 1 ⟨[(0, .d (.sl 1 (List.map e3 plan))), (2, .ptr 0 0), (4, .ptr 2 0), (5, .ptr 3 0), (6, .ptr 4 0), (8, .ptr 5 0), (10, .d (I (plan.length : Int))), (11, .d (I r0))], [(5, .var 92 [.d (I (cut 0)), .d (I (cut 1)), .d (I (cut 2)), .d (I (cut 3)), .d (I (cut 4))]), (0, .var 78 (catV (cv25 o0_HairBook) [.fmp (List.map m84_35 mf)])), (1, .var 127 [.yld]), (2, .var 99 [.d (.fn 107)]), (3, .var 65 [.clo 89 [.agg [.d (.sl 4 (List.map e58 m0_HairBook.Hanks)), .d (.sl 3 (List.map e69 m0_HairBook.Horses)), .d (I m0_HairBook.Dark), .d (I m0_HairBook.Near), .d (I m0_HairBook.Match), .fmp (List.map m84_35 mf_1)]] []]), (4, .var 127 [.clo 112 [] [.ptr 0 0, .ptr 1 0, .ptr 2 0, .ptr 3 0, .ptr 4 0]])], 6, (fr_ s_), [], 5⟩ (by kernel_rfl) ?_
     refine RunC.fin ⟨[(0, .d (.sl 1 (List.map e3 plan))), (2, .ptr 0 0), (4, .ptr 2 0), (5, .ptr 3 0), (6, .ptr 4 0), (8, .ptr 5 0), (10, .d (I (plan.length : Int))), (11, .d (I r0))], [(5, .var 92 [.d (I (cut 0)), .d (I (cut 1)), .d (I (cut 2)), .d (I (cut 3)), .d (I (cut 4))]), (0, .var 78 (catV (cv25 o0_HairBook) [.fmp (List.map m84_35 mf)])), (1, .var 127 [.yld]), (2, .var 99 [.d (.fn 107)]), (3, .var 65 [.clo 89 [.agg [.d (.sl 4 (List.map e58 m0_HairBook.Hanks)), .d (.sl 3 (List.map e69 m0_HairBook.Horses)), .d (I m0_HairBook.Dark), .d (I m0_HairBook.Near), .d (I m0_HairBook.Match), .fmp (List.map m84_35 mf_1)]] []]), (4, .var 127 [.clo 112 [] [.ptr 0 0, .ptr 1 0, .ptr 2 0, .ptr 3 0, .ptr 4 0]])], 6, (fr_ s_), [], 5⟩ (by kernel_rfl) (by kernel_rfl) ?_
     obtain rfl := Option.some.inj h
     exact hK_7 _ (Can.kp (by kernel_rfl))
    ·refine r_iaF trivial rfl rfl (ixN_ok hv_9).1 (ixN_ok hv_9).2.1 ?_
     refine r_loadF trivial rfl (u := .fn 135) (by rw [(ixN_ok hv_9).2.2]; rfl) ?_
     refine RunC.auX 5 ⟨[(0, .d (.sl 1 (List.map e3 plan))), (2, .ptr 0 0), (4, .ptr 2 0), (5, .ptr 3 0), (6, .ptr 4 0), (8, .ptr 5 0), (10, .d (I (plan.length : Int))), (31, .d (.fn 135)), (34, .d (.sl 3 (List.map e69 o0_HairBook.Horses))), (36, .d (I (wr ((plan.length : Int).tdiv 2))))], [(5, .var 92 [.d (I (cut 0)), .d (I (cut 1)), .d (I (cut 2)), .d (I (cut 3)), .d (I (cut 4))]), (0, .var 78 (catV (cv25 o0_HairBook) [.fmp (List.map m84_35 mf)])), (1, .var 127 [.yld]), (2, .var 99 [.d (.fn 107)]), (3, .var 65 [.clo 89 [.agg [.d (.sl 4 (List.map e58 m0_HairBook.Hanks)), .d (.sl 3 (List.map e69 m0_HairBook.Horses)), .d (I m0_HairBook.Dark), .d (I m0_HairBook.Near), .d (I m0_HairBook.Match), .fmp (List.map m84_35 mf_1)]] []]), (4, .var 127 [.clo 112 [] [.ptr 0 0, .ptr 1 0, .ptr 2 0, .ptr 3 0, .ptr 4 0]])], 6, (fr_ s_), [], 5⟩ (by kernel_rfl) ?_
     obtain ⟨p1, hv_12, h⟩ := bsome h
     refine r_iaD trivial rfl rfl (ixL_ok hv_12).1 (row := e69 p1) (mapget (ixL_ok hv_12).2) ?_
     refine RunC.auX 1 ⟨[(0, .d (.sl 1 (List.map e3 plan))), (2, .ptr 0 0), (4, .ptr 2 0), (5, .ptr 3 0), (6, .ptr 4 0), (8, .ptr 5 0), (10, .d (I (plan.length : Int))), (31, .d (.fn 135)), (38, .agg [.d (I p1.Mane), .d (I p1.Tail), .d (I p1.Shade)])], [(5, .var 92 [.d (I (cut 0)), .d (I (cut 1)), .d (I (cut 2)), .d (I (cut 3)), .d (I (cut 4))]), (0, .var 78 (catV (cv25 o0_HairBook) [.fmp (List.map m84_35 mf)])), (1, .var 127 [.yld]), (2, .var 99 [.d (.fn 107)]), (3, .var 65 [.clo 89 [.agg [.d (.sl 4 (List.map e58 m0_HairBook.Hanks)), .d (.sl 3 (List.map e69 m0_HairBook.Horses)), .d (I m0_HairBook.Dark), .d (I m0_HairBook.Near), .d (I m0_HairBook.Match), .fmp (List.map m84_35 mf_1)]] []]), (4, .var 127 [.clo 112 [] [.ptr 0 0, .ptr 1 0, .ptr 2 0, .ptr 3 0, .ptr 4 0]])], 6, (fr_ s_), [], 5⟩ (by kernel_rfl) ?_
     obtain ⟨r0_1, hx_13, h⟩ := bsome h
     refine r_callvZ (zr := []) trivial rfl (.fn _) (by kernel_rfl) rfl (k135 p1 _ hx_13) trivial ⟨.refl _, trivial⟩ rfl rfl rfl rfl ?_
     refine RunC.auX 1 ⟨[(0, .d (.sl 1 (List.map e3 plan))), (2, .ptr 0 0), (4, .ptr 2 0), (5, .ptr 3 0), (6, .ptr 4 0), (8, .ptr 5 0), (10, .d (I (plan.length : Int))), (11, .d (I r0_1))], [(5, .var 92 [.d (I (cut 0)), .d (I (cut 1)), .d (I (cut 2)), .d (I (cut 3)), .d (I (cut 4))]), (0, .var 78 (catV (cv25 o0_HairBook) [.fmp (List.map m84_35 mf)])), (1, .var 127 [.yld]), (2, .var 99 [.d (.fn 107)]), (3, .var 65 [.clo 89 [.agg [.d (.sl 4 (List.map e58 m0_HairBook.Hanks)), .d (.sl 3 (List.map e69 m0_HairBook.Horses)), .d (I m0_HairBook.Dark), .d (I m0_HairBook.Near), .d (I m0_HairBook.Match), .fmp (List.map m84_35 mf_1)]] []]), (4, .var 127 [.clo 112 [] [.ptr 0 0, .ptr 1 0, .ptr 2 0, .ptr 3 0, .ptr 4 0]])], 6, (fr_ s_), [], 5⟩ (by kernel_rfl) ?_
     refine RunC.fin ⟨[(0, .d (.sl 1 (List.map e3 plan))), (2, .ptr 0 0), (4, .ptr 2 0), (5, .ptr 3 0), (6, .ptr 4 0), (8, .ptr 5 0), (10, .d (I (plan.length : Int))), (11, .d (I r0_1))], [(5, .var 92 [.d (I (cut 0)), .d (I (cut 1)), .d (I (cut 2)), .d (I (cut 3)), .d (I (cut 4))]), (0, .var 78 (catV (cv25 o0_HairBook) [.fmp (List.map m84_35 mf)])), (1, .var 127 [.yld]), (2, .var 99 [.d (.fn 107)]), (3, .var 65 [.clo 89 [.agg [.d (.sl 4 (List.map e58 m0_HairBook.Hanks)), .d (.sl 3 (List.map e69 m0_HairBook.Horses)), .d (I m0_HairBook.Dark), .d (I m0_HairBook.Near), .d (I m0_HairBook.Match), .fmp (List.map m84_35 mf_1)]] []]), (4, .var 127 [.clo 112 [] [.ptr 0 0, .ptr 1 0, .ptr 2 0, .ptr 3 0, .ptr 4 0]])], 6, (fr_ s_), [], 5⟩ (by kernel_rfl) (by kernel_rfl) ?_
     obtain rfl := Option.some.inj h
     exact hK_7 _ (Can.kp (by kernel_rfl))
    ·cases h
   ·refine AW.seq (AW.skip ?_)
    refine AW.seqK (fun K_14 hK_14 => ?_)
    refine AW.srwK (fun Q_15 hQ_15 => ?_)
    refine RW.au fokW 3 [] ⟨[(0, .d (.sl 1 (List.map e3 plan))), (4, .ptr 2 0), (5, .ptr 3 0), (6, .ptr 4 0), (8, .ptr 5 0), (10, .d (I (plan.length : Int))), (11, .d (I need)), (42, .d (.sl 4 (List.map e58 o0_HairBook.Hanks)))], [(5, .var 92 [.d (I (cut 0)), .d (I (cut 1)), .d (I (cut 2)), .d (I (cut 3)), .d (I (cut 4))]), (0, .var 78 (catV (cv25 o0_HairBook) [.fmp (List.map m84_35 mf)])), (1, .var 127 [.yld]), (2, .var 99 [.d (.fn 107)]), (3, .var 65 [.clo 89 [.agg [.d (.sl 4 (List.map e58 m0_HairBook.Hanks)), .d (.sl 3 (List.map e69 m0_HairBook.Horses)), .d (I m0_HairBook.Dark), .d (I m0_HairBook.Near), .d (I m0_HairBook.Match), .fmp (List.map m84_35 mf_1)]] []]), (4, .var 127 [.clo 112 [] [.ptr 0 0, .ptr 1 0, .ptr 2 0, .ptr 3 0, .ptr 4 0]])], 6, (fr_ s_), [], 5⟩ (by kernel_rfl) ?_
    refine RW.one fokW (r_lenX trivial rfl lenm (r_end ?_))
    refine RW.au fokW 1 [] ⟨[(0, .d (.sl 1 (List.map e3 plan))), (4, .ptr 2 0), (5, .ptr 3 0), (6, .ptr 4 0), (8, .ptr 5 0), (10, .d (I (plan.length : Int))), (11, .d (I need)), (42, .d (.sl 4 (List.map e58 o0_HairBook.Hanks))), (43, .d (I (o0_HairBook.Hanks.length : Int))), (44, .d (I 0))], [(5, .var 92 [.d (I (cut 0)), .d (I (cut 1)), .d (I (cut 2)), .d (I (cut 3)), .d (I (cut 4))]), (0, .var 78 (catV (cv25 o0_HairBook) [.fmp (List.map m84_35 mf)])), (1, .var 127 [.yld]), (2, .var 99 [.d (.fn 107)]), (3, .var 65 [.clo 89 [.agg [.d (.sl 4 (List.map e58 m0_HairBook.Hanks)), .d (.sl 3 (List.map e69 m0_HairBook.Horses)), .d (I m0_HairBook.Dark), .d (I m0_HairBook.Near), .d (I m0_HairBook.Match), .fmp (List.map m84_35 mf_1)]] []]), (4, .var 127 [.clo 112 [] [.ptr 0 0, .ptr 1 0, .ptr 2 0, .ptr 3 0, .ptr 4 0]])], 6, (fr_ s_), [], 5⟩ (by kernel_rfl) ?_
    refine RW.nil ?_
    refine hQ_15 _ ?_
    refine AW.block ?_
    refine AW.sln (t := 42) rfl (fun hN_16 => ?_)
    rw [List.length_map] at hN_16
    obtain ⟨out_16, hx_16, hk_16⟩ := bsomeC h
    refine AW.evCK (fun (v : Int) (s_2 : S_) => ⟨[(0, .d (.sl 1 (List.map e3 plan))), (4, .ptr 2 0), (5, .ptr 3 0), (6, .ptr 4 0), (8, .ptr 5 0), (10, .d (I (plan.length : Int))), (11, .d (I need)), (42, .d (.sl 4 (List.map e58 o0_HairBook.Hanks))), (43, .d (I (o0_HairBook.Hanks.length : Int))), (44, .d (I v))], [(5, .var 92 [.d (I (cut 0)), .d (I (cut 1)), .d (I (cut 2)), .d (I (cut 3)), .d (I (cut 4))]), (0, .var 78 (catV (cv25 o0_HairBook) [.fmp (List.map m84_35 mf)])), (1, .var 127 [.yld]), (2, .var 99 [.d (.fn 107)]), (3, .var 65 [.clo 89 [.agg [.d (.sl 4 (List.map e58 m0_HairBook.Hanks)), .d (.sl 3 (List.map e69 m0_HairBook.Horses)), .d (I m0_HairBook.Dark), .d (I m0_HairBook.Near), .d (I m0_HairBook.Match), .fmp (List.map m84_35 mf_1)]] []]), (4, .var 127 [.clo 112 [] [.ptr 0 0, .ptr 1 0, .ptr 2 0, .ptr 3 0, .ptr 4 0]])], 6, (fr_ s_2), [], 5⟩) (g112_16 (g112 c_ n_) plan cut o0_HairBook mf m0_HairBook mf_1 need) hx_16 (Can.kp (by kernel_rfl)) (fun v p2 s_2 hi_16 hl_16 hp_16 c_16 h hb_16 K_16 hK_16 => ?_) (fun v s_2 hi_16 hl_16 hout => ?_)
    ·unfold g112_16 at h
     refine AW.sa fokW [] ⟨[(0, .d (.sl 1 (List.map e3 plan))), (4, .ptr 2 0), (5, .ptr 3 0), (6, .ptr 4 0), (8, .ptr 5 0), (10, .d (I (plan.length : Int))), (11, .d (I need)), (42, .d (.sl 4 (List.map e58 o0_HairBook.Hanks))), (43, .d (I (o0_HairBook.Hanks.length : Int))), (44, .d (I v)), (45, .d (.bool (decide (v < (o0_HairBook.Hanks.length : Int)))))], [(5, .var 92 [.d (I (cut 0)), .d (I (cut 1)), .d (I (cut 2)), .d (I (cut 3)), .d (I (cut 4))]), (0, .var 78 (catV (cv25 o0_HairBook) [.fmp (List.map m84_35 mf)])), (1, .var 127 [.yld]), (2, .var 99 [.d (.fn 107)]), (3, .var 65 [.clo 89 [.agg [.d (.sl 4 (List.map e58 m0_HairBook.Hanks)), .d (.sl 3 (List.map e69 m0_HairBook.Horses)), .d (I m0_HairBook.Dark), .d (I m0_HairBook.Near), .d (I m0_HairBook.Match), .fmp (List.map m84_35 mf_1)]] []]), (4, .var 127 [.clo 112 [] [.ptr 0 0, .ptr 1 0, .ptr 2 0, .ptr 3 0, .ptr 4 0]])], 6, (fr_ s_2), [], 5⟩ (by kernel_rfl) ?_
     refine AW.seqK (fun K_17 hK_17 => ?_)
     refine AW.cond rfl (fun hb_18 => ?_) (fun hb_18 => False.elim (by have := of_decide_eq_false hb_18; omega))
     refine AW.skip ?_
     refine hK_17 _ ?_
     refine AW.seqK (fun K_19 hK_19 => ?_)
     refine AW.block ?_
     refine AW.srwK (fun Q_20 hQ_20 => ?_)
     refine RW.au fokW 1 [] ⟨[(0, .d (.sl 1 (List.map e3 plan))), (4, .ptr 2 0), (5, .ptr 3 0), (6, .ptr 4 0), (8, .ptr 5 0), (10, .d (I (plan.length : Int))), (11, .d (I need)), (42, .d (.sl 4 (List.map e58 o0_HairBook.Hanks))), (43, .d (I (o0_HairBook.Hanks.length : Int))), (44, .d (I v)), (46, .d (I v))], [(5, .var 92 [.d (I (cut 0)), .d (I (cut 1)), .d (I (cut 2)), .d (I (cut 3)), .d (I (cut 4))]), (0, .var 78 (catV (cv25 o0_HairBook) [.fmp (List.map m84_35 mf)])), (1, .var 127 [.yld]), (2, .var 99 [.d (.fn 107)]), (3, .var 65 [.clo 89 [.agg [.d (.sl 4 (List.map e58 m0_HairBook.Hanks)), .d (.sl 3 (List.map e69 m0_HairBook.Horses)), .d (I m0_HairBook.Dark), .d (I m0_HairBook.Near), .d (I m0_HairBook.Match), .fmp (List.map m84_35 mf_1)]] []]), (4, .var 127 [.clo 112 [] [.ptr 0 0, .ptr 1 0, .ptr 2 0, .ptr 3 0, .ptr 4 0]])], 6, (fr_ s_2), [], 5⟩ (by kernel_rfl) ?_
     refine RW.one fokW (r_iaD trivial rfl rfl hi_16 (row := e58 p2) (mapget hp_16) (r_end ?_))
     refine RW.au fokW 4 [] ⟨[(0, .d (.sl 1 (List.map e3 plan))), (4, .ptr 2 0), (5, .ptr 3 0), (6, .ptr 4 0), (8, .ptr 5 0), (10, .d (I (plan.length : Int))), (11, .d (I need)), (12, .d (I v)), (13, .ptr 6 0), (42, .d (.sl 4 (List.map e58 o0_HairBook.Hanks))), (43, .d (I (o0_HairBook.Hanks.length : Int))), (44, .d (I v))], [(6, .var 58 (cv58 p2)), (5, .var 92 [.d (I (cut 0)), .d (I (cut 1)), .d (I (cut 2)), .d (I (cut 3)), .d (I (cut 4))]), (0, .var 78 (catV (cv25 o0_HairBook) [.fmp (List.map m84_35 mf)])), (1, .var 127 [.yld]), (2, .var 99 [.d (.fn 107)]), (3, .var 65 [.clo 89 [.agg [.d (.sl 4 (List.map e58 m0_HairBook.Hanks)), .d (.sl 3 (List.map e69 m0_HairBook.Horses)), .d (I m0_HairBook.Dark), .d (I m0_HairBook.Near), .d (I m0_HairBook.Match), .fmp (List.map m84_35 mf_1)]] []]), (4, .var 127 [.clo 112 [] [.ptr 0 0, .ptr 1 0, .ptr 2 0, .ptr 3 0, .ptr 4 0]])], 7, (fr_ s_2), [], 5⟩ (by kernel_rfl) ?_
     refine RW.nil ?_
     refine hQ_20 _ ?_
     obtain ⟨c_21, hx_21, hk_21⟩ := bsomeC h
     refine AW.jnK (fun (_ : Unit) => ⟨[(0, .d (.sl 1 (List.map e3 plan))), (4, .ptr 2 0), (5, .ptr 3 0), (6, .ptr 4 0), (8, .ptr 5 0), (10, .d (I (plan.length : Int))), (11, .d (I need)), (12, .d (I v)), (42, .d (.sl 4 (List.map e58 o0_HairBook.Hanks))), (43, .d (I (o0_HairBook.Hanks.length : Int))), (44, .d (I v))], [(5, .var 92 [.d (I (cut 0)), .d (I (cut 1)), .d (I (cut 2)), .d (I (cut 3)), .d (I (cut 4))]), (0, .var 78 (catV (cv25 o0_HairBook) [.fmp (List.map m84_35 mf)])), (1, .var 127 [.yld]), (2, .var 99 [.d (.fn 107)]), (3, .var 65 [.clo 89 [.agg [.d (.sl 4 (List.map e58 m0_HairBook.Hanks)), .d (.sl 3 (List.map e69 m0_HairBook.Horses)), .d (I m0_HairBook.Dark), .d (I m0_HairBook.Near), .d (I m0_HairBook.Match), .fmp (List.map m84_35 mf_1)]] []]), (4, .var 127 [.clo 112 [] [.ptr 0 0, .ptr 1 0, .ptr 2 0, .ptr 3 0, .ptr 4 0]])], 7, (fr_ s_2), [], 5⟩) (c := c_21) (fun K_21 hK_21 => ?_) (fun j_21 hj_21 => ?_)
     ·have h := hx_21
      refine AW.sdrwK fokW (fun Q_22 hQ_22 => ?_)
      refine RunC.auX 1 ⟨[(0, .d (.sl 1 (List.map e3 plan))), (4, .ptr 2 0), (5, .ptr 3 0), (6, .ptr 4 0), (8, .ptr 5 0), (10, .d (I (plan.length : Int))), (11, .d (I need)), (12, .d (I v)), (13, .ptr 6 0), (42, .d (.sl 4 (List.map e58 o0_HairBook.Hanks))), (43, .d (I (o0_HairBook.Hanks.length : Int))), (44, .d (I v)), (49, .d (I v))], [(6, .var 58 (cv58 p2)), (5, .var 92 [.d (I (cut 0)), .d (I (cut 1)), .d (I (cut 2)), .d (I (cut 3)), .d (I (cut 4))]), (0, .var 78 (catV (cv25 o0_HairBook) [.fmp (List.map m84_35 mf)])), (1, .var 127 [.yld]), (2, .var 99 [.d (.fn 107)]), (3, .var 65 [.clo 89 [.agg [.d (.sl 4 (List.map e58 m0_HairBook.Hanks)), .d (.sl 3 (List.map e69 m0_HairBook.Horses)), .d (I m0_HairBook.Dark), .d (I m0_HairBook.Near), .d (I m0_HairBook.Match), .fmp (List.map m84_35 mf_1)]] []]), (4, .var 127 [.clo 112 [] [.ptr 0 0, .ptr 1 0, .ptr 2 0, .ptr 3 0, .ptr 4 0]])], 7, (fr_ s_2), [], 5⟩ (by kernel_rfl) ?_
      obtain ⟨j1, hv_23, h⟩ := bsome h
      refine r_iaV trivial rfl rfl rfl (ixN_ok hv_23).1 (ixN_ok hv_23).2.1 ?_
      refine r_loadV trivial rfl rfl (u := .d (I (cut j1))) (agt (f := fun k => .d (I (cut k))) hv_23) ?_
      refine RunC.auX 6 ⟨[(0, .d (.sl 1 (List.map e3 plan))), (4, .ptr 2 0), (5, .ptr 3 0), (6, .ptr 4 0), (8, .ptr 5 0), (10, .d (I (plan.length : Int))), (11, .d (I need)), (12, .d (I v)), (42, .d (.sl 4 (List.map e58 o0_HairBook.Hanks))), (43, .d (I (o0_HairBook.Hanks.length : Int))), (44, .d (I v)), (53, .d (I (wr ((cut j1) + need)))), (55, .d (.fn 107)), (57, .agg [.d (I p2.Weight.Low), .d (I p2.Weight.High)])], [(6, .var 58 (cv58 p2)), (5, .var 92 [.d (I (cut 0)), .d (I (cut 1)), .d (I (cut 2)), .d (I (cut 3)), .d (I (cut 4))]), (0, .var 78 (catV (cv25 o0_HairBook) [.fmp (List.map m84_35 mf)])), (1, .var 127 [.yld]), (2, .var 99 [.d (.fn 107)]), (3, .var 65 [.clo 89 [.agg [.d (.sl 4 (List.map e58 m0_HairBook.Hanks)), .d (.sl 3 (List.map e69 m0_HairBook.Horses)), .d (I m0_HairBook.Dark), .d (I m0_HairBook.Near), .d (I m0_HairBook.Match), .fmp (List.map m84_35 mf_1)]] []]), (4, .var 127 [.clo 112 [] [.ptr 0 0, .ptr 1 0, .ptr 2 0, .ptr 3 0, .ptr 4 0]])], 7, (fr_ s_2), [], 5⟩ (by kernel_rfl) ?_
      obtain ⟨r0_2, hx_24, h⟩ := bsome h
      refine r_callvZ (zr := []) trivial rfl (.fn _) (by kernel_rfl) rfl (k107 p2.Weight _ hx_24) trivial ⟨.refl _, trivial⟩ rfl rfl rfl rfl ?_
      refine RunC.auX 2 ⟨[(0, .d (.sl 1 (List.map e3 plan))), (4, .ptr 2 0), (5, .ptr 3 0), (6, .ptr 4 0), (8, .ptr 5 0), (10, .d (I (plan.length : Int))), (11, .d (I need)), (12, .d (I v)), (42, .d (.sl 4 (List.map e58 o0_HairBook.Hanks))), (43, .d (I (o0_HairBook.Hanks.length : Int))), (44, .d (I v)), (60, .d (.bool (decide (r0_2 < (wr ((cut j1) + need))))))], [(6, .var 58 (cv58 p2)), (5, .var 92 [.d (I (cut 0)), .d (I (cut 1)), .d (I (cut 2)), .d (I (cut 3)), .d (I (cut 4))]), (0, .var 78 (catV (cv25 o0_HairBook) [.fmp (List.map m84_35 mf)])), (1, .var 127 [.yld]), (2, .var 99 [.d (.fn 107)]), (3, .var 65 [.clo 89 [.agg [.d (.sl 4 (List.map e58 m0_HairBook.Hanks)), .d (.sl 3 (List.map e69 m0_HairBook.Horses)), .d (I m0_HairBook.Dark), .d (I m0_HairBook.Near), .d (I m0_HairBook.Match), .fmp (List.map m84_35 mf_1)]] []]), (4, .var 127 [.clo 112 [] [.ptr 0 0, .ptr 1 0, .ptr 2 0, .ptr 3 0, .ptr 4 0]])], 7, (fr_ s_2), [], 5⟩ (by kernel_rfl) ?_
      refine r_split 60 rfl (fun hb_25 => ?_) (fun hb_25 => ?_)
      ·have h := ifT hb_25 h
       refine RunC.auX 17 ⟨[(0, .d (.sl 1 (List.map e3 plan))), (4, .ptr 2 0), (5, .ptr 3 0), (6, .ptr 4 0), (8, .ptr 5 0), (10, .d (I (plan.length : Int))), (11, .d (I need)), (12, .d (I v)), (42, .d (.sl 4 (List.map e58 o0_HairBook.Hanks))), (43, .d (I (o0_HairBook.Hanks.length : Int))), (44, .d (I v)), (77, .d (.bool true))], [(6, .var 58 (cv58 p2)), (5, .var 92 [.d (I (cut 0)), .d (I (cut 1)), .d (I (cut 2)), .d (I (cut 3)), .d (I (cut 4))]), (0, .var 78 (catV (cv25 o0_HairBook) [.fmp (List.map m84_35 mf)])), (1, .var 127 [.yld]), (2, .var 99 [.d (.fn 107)]), (3, .var 65 [.clo 89 [.agg [.d (.sl 4 (List.map e58 m0_HairBook.Hanks)), .d (.sl 3 (List.map e69 m0_HairBook.Horses)), .d (I m0_HairBook.Dark), .d (I m0_HairBook.Near), .d (I m0_HairBook.Match), .fmp (List.map m84_35 mf_1)]] []]), (4, .var 127 [.clo 112 [] [.ptr 0 0, .ptr 1 0, .ptr 2 0, .ptr 3 0, .ptr 4 0]])], 7, (fr_ s_2), [], 5⟩ (by kernel_rfl) ?_
       refine RunC.fin ⟨[(0, .d (.sl 1 (List.map e3 plan))), (4, .ptr 2 0), (5, .ptr 3 0), (6, .ptr 4 0), (8, .ptr 5 0), (10, .d (I (plan.length : Int))), (11, .d (I need)), (12, .d (I v)), (42, .d (.sl 4 (List.map e58 o0_HairBook.Hanks))), (43, .d (I (o0_HairBook.Hanks.length : Int))), (44, .d (I v)), (77, .d (.bool true))], [(5, .var 92 [.d (I (cut 0)), .d (I (cut 1)), .d (I (cut 2)), .d (I (cut 3)), .d (I (cut 4))]), (0, .var 78 (catV (cv25 o0_HairBook) [.fmp (List.map m84_35 mf)])), (1, .var 127 [.yld]), (2, .var 99 [.d (.fn 107)]), (3, .var 65 [.clo 89 [.agg [.d (.sl 4 (List.map e58 m0_HairBook.Hanks)), .d (.sl 3 (List.map e69 m0_HairBook.Horses)), .d (I m0_HairBook.Dark), .d (I m0_HairBook.Near), .d (I m0_HairBook.Match), .fmp (List.map m84_35 mf_1)]] []]), (4, .var 127 [.clo 112 [] [.ptr 0 0, .ptr 1 0, .ptr 2 0, .ptr 3 0, .ptr 4 0]])], 7, (fr_ s_2), [], 5⟩ (by kernel_rfl) (by kernel_rfl) ?_
       refine hQ_22 _ ?_
       refine AW.condT rfl ?_
       refine AW.exit ?_
       refine hK_19 _ ?_
       refine AW.ra fokW [] ⟨[(0, .d (.sl 1 (List.map e3 plan))), (4, .ptr 2 0), (5, .ptr 3 0), (6, .ptr 4 0), (8, .ptr 5 0), (10, .d (I (plan.length : Int))), (11, .d (I need)), (42, .d (.sl 4 (List.map e58 o0_HairBook.Hanks))), (43, .d (I (o0_HairBook.Hanks.length : Int))), (44, .d (I (wr (v + 1))))], [(5, .var 92 [.d (I (cut 0)), .d (I (cut 1)), .d (I (cut 2)), .d (I (cut 3)), .d (I (cut 4))]), (0, .var 78 (catV (cv25 o0_HairBook) [.fmp (List.map m84_35 mf)])), (1, .var 127 [.yld]), (2, .var 99 [.d (.fn 107)]), (3, .var 65 [.clo 89 [.agg [.d (.sl 4 (List.map e58 m0_HairBook.Hanks)), .d (.sl 3 (List.map e69 m0_HairBook.Horses)), .d (I m0_HairBook.Dark), .d (I m0_HairBook.Near), .d (I m0_HairBook.Match), .fmp (List.map m84_35 mf_1)]] []]), (4, .var 127 [.clo 112 [] [.ptr 0 0, .ptr 1 0, .ptr 2 0, .ptr 3 0, .ptr 4 0]])], 7, (fr_ s_2), [], 5⟩ (by kernel_rfl) ?_
       obtain rfl := Option.some.inj h
       obtain rfl := Aft.bk hk_21
       have ew : wr (v + 1) = v + 1 := inext (N := (o0_HairBook.Hanks.length : Int)) (by omega) (by omega) (by omega)
       rw [ew]
       exact hK_16 _ _ rfl (Can.kp (by kernel_rfl))
      ·have h := ifF hb_25 h
       refine RunC.auX 4 ⟨[(0, .d (.sl 1 (List.map e3 plan))), (4, .ptr 2 0), (5, .ptr 3 0), (6, .ptr 4 0), (8, .ptr 5 0), (10, .d (I (plan.length : Int))), (11, .d (I need)), (12, .d (I v)), (42, .d (.sl 4 (List.map e58 o0_HairBook.Hanks))), (43, .d (I (o0_HairBook.Hanks.length : Int))), (44, .d (I v)), (60, .d (.bool false)), (64, .d (.bool (decide (((plan.length : Int).tmod 2) = 1))))], [(6, .var 58 (cv58 p2)), (5, .var 92 [.d (I (cut 0)), .d (I (cut 1)), .d (I (cut 2)), .d (I (cut 3)), .d (I (cut 4))]), (0, .var 78 (catV (cv25 o0_HairBook) [.fmp (List.map m84_35 mf)])), (1, .var 127 [.yld]), (2, .var 99 [.d (.fn 107)]), (3, .var 65 [.clo 89 [.agg [.d (.sl 4 (List.map e58 m0_HairBook.Hanks)), .d (.sl 3 (List.map e69 m0_HairBook.Horses)), .d (I m0_HairBook.Dark), .d (I m0_HairBook.Near), .d (I m0_HairBook.Match), .fmp (List.map m84_35 mf_1)]] []]), (4, .var 127 [.clo 112 [] [.ptr 0 0, .ptr 1 0, .ptr 2 0, .ptr 3 0, .ptr 4 0]])], 7, (fr_ s_2), [], 5⟩ (by kernel_rfl) ?_
       refine r_split 64 rfl (fun hb_26 => ?_) (fun hb_26 => ?_)
       ·have h := ifT hb_26 h
        refine RunC.auX 6 ⟨[(0, .d (.sl 1 (List.map e3 plan))), (4, .ptr 2 0), (5, .ptr 3 0), (6, .ptr 4 0), (8, .ptr 5 0), (10, .d (I (plan.length : Int))), (11, .d (I need)), (12, .d (I v)), (42, .d (.sl 4 (List.map e58 o0_HairBook.Hanks))), (43, .d (I (o0_HairBook.Hanks.length : Int))), (44, .d (I v)), (60, .d (.bool false)), (64, .d (.bool true)), (65, .clo 89 [.agg [.d (.sl 4 (List.map e58 m0_HairBook.Hanks)), .d (.sl 3 (List.map e69 m0_HairBook.Horses)), .d (I m0_HairBook.Dark), .d (I m0_HairBook.Near), .d (I m0_HairBook.Match), .fmp (List.map m84_35 mf_1)]] []), (67, .d (I (wr ((plan.length : Int).tdiv 2)))), (68, .d (.sl 1 (List.map e3 plan))), (70, .d (I (wr ((plan.length : Int) - 1))))], [(6, .var 58 (cv58 p2)), (5, .var 92 [.d (I (cut 0)), .d (I (cut 1)), .d (I (cut 2)), .d (I (cut 3)), .d (I (cut 4))]), (0, .var 78 (catV (cv25 o0_HairBook) [.fmp (List.map m84_35 mf)])), (1, .var 127 [.yld]), (2, .var 99 [.d (.fn 107)]), (3, .var 65 [.clo 89 [.agg [.d (.sl 4 (List.map e58 m0_HairBook.Hanks)), .d (.sl 3 (List.map e69 m0_HairBook.Horses)), .d (I m0_HairBook.Dark), .d (I m0_HairBook.Near), .d (I m0_HairBook.Match), .fmp (List.map m84_35 mf_1)]] []]), (4, .var 127 [.clo 112 [] [.ptr 0 0, .ptr 1 0, .ptr 2 0, .ptr 3 0, .ptr 4 0]])], 7, (fr_ s_2), [], 5⟩ (by kernel_rfl) ?_
        obtain ⟨p3, hv_27, h⟩ := bsome h
        refine r_iaD rfl rfl rfl (ixL_ok hv_27).1 (row := e3 p3) (mapget (ixL_ok hv_27).2) ?_
        refine RunC.auX 2 ⟨[(0, .d (.sl 1 (List.map e3 plan))), (4, .ptr 2 0), (5, .ptr 3 0), (6, .ptr 4 0), (8, .ptr 5 0), (10, .d (I (plan.length : Int))), (11, .d (I need)), (12, .d (I v)), (42, .d (.sl 4 (List.map e58 o0_HairBook.Hanks))), (43, .d (I (o0_HairBook.Hanks.length : Int))), (44, .d (I v)), (60, .d (.bool false)), (64, .d (.bool true)), (65, .clo 89 [.agg [.d (.sl 4 (List.map e58 m0_HairBook.Hanks)), .d (.sl 3 (List.map e69 m0_HairBook.Horses)), .d (I m0_HairBook.Dark), .d (I m0_HairBook.Near), .d (I m0_HairBook.Match), .fmp (List.map m84_35 mf_1)]] []), (67, .d (I (wr ((plan.length : Int).tdiv 2)))), (72, .d (I p3)), (73, .d (I v))], [(6, .var 58 (cv58 p2)), (5, .var 92 [.d (I (cut 0)), .d (I (cut 1)), .d (I (cut 2)), .d (I (cut 3)), .d (I (cut 4))]), (0, .var 78 (catV (cv25 o0_HairBook) [.fmp (List.map m84_35 mf)])), (1, .var 127 [.yld]), (2, .var 99 [.d (.fn 107)]), (3, .var 65 [.clo 89 [.agg [.d (.sl 4 (List.map e58 m0_HairBook.Hanks)), .d (.sl 3 (List.map e69 m0_HairBook.Horses)), .d (I m0_HairBook.Dark), .d (I m0_HairBook.Near), .d (I m0_HairBook.Match), .fmp (List.map m84_35 mf_1)]] []]), (4, .var 127 [.clo 112 [] [.ptr 0 0, .ptr 1 0, .ptr 2 0, .ptr 3 0, .ptr 4 0]])], 7, (fr_ s_2), [], 5⟩ (by kernel_rfl) ?_
        obtain ⟨r0_3, hx_28, h⟩ := bsome h
        refine r_callvZ (zr := []) rfl rfl (.clo _ _ _) (by kernel_rfl) rfl (k89 m0_HairBook mf_1 (wr ((plan.length : Int).tdiv 2)) p3 v _ hx_28) trivial ⟨.refl _, .refl _, .refl _, .refl _, trivial⟩ rfl rfl rfl rfl ?_
        refine RunC.auX 3 ⟨[(0, .d (.sl 1 (List.map e3 plan))), (4, .ptr 2 0), (5, .ptr 3 0), (6, .ptr 4 0), (8, .ptr 5 0), (10, .d (I (plan.length : Int))), (11, .d (I need)), (12, .d (I v)), (42, .d (.sl 4 (List.map e58 o0_HairBook.Hanks))), (43, .d (I (o0_HairBook.Hanks.length : Int))), (44, .d (I v)), (77, .d (.bool (!r0_3)))], [(6, .var 58 (cv58 p2)), (5, .var 92 [.d (I (cut 0)), .d (I (cut 1)), .d (I (cut 2)), .d (I (cut 3)), .d (I (cut 4))]), (0, .var 78 (catV (cv25 o0_HairBook) [.fmp (List.map m84_35 mf)])), (1, .var 127 [.yld]), (2, .var 99 [.d (.fn 107)]), (3, .var 65 [.clo 89 [.agg [.d (.sl 4 (List.map e58 m0_HairBook.Hanks)), .d (.sl 3 (List.map e69 m0_HairBook.Horses)), .d (I m0_HairBook.Dark), .d (I m0_HairBook.Near), .d (I m0_HairBook.Match), .fmp (List.map m84_35 mf_1)]] []]), (4, .var 127 [.clo 112 [] [.ptr 0 0, .ptr 1 0, .ptr 2 0, .ptr 3 0, .ptr 4 0]])], 7, (fr_ s_2), [], 5⟩ (by kernel_rfl) ?_
        refine RunC.fin ⟨[(0, .d (.sl 1 (List.map e3 plan))), (4, .ptr 2 0), (5, .ptr 3 0), (6, .ptr 4 0), (8, .ptr 5 0), (10, .d (I (plan.length : Int))), (11, .d (I need)), (12, .d (I v)), (42, .d (.sl 4 (List.map e58 o0_HairBook.Hanks))), (43, .d (I (o0_HairBook.Hanks.length : Int))), (44, .d (I v)), (77, .d (.bool (!r0_3)))], [(5, .var 92 [.d (I (cut 0)), .d (I (cut 1)), .d (I (cut 2)), .d (I (cut 3)), .d (I (cut 4))]), (0, .var 78 (catV (cv25 o0_HairBook) [.fmp (List.map m84_35 mf)])), (1, .var 127 [.yld]), (2, .var 99 [.d (.fn 107)]), (3, .var 65 [.clo 89 [.agg [.d (.sl 4 (List.map e58 m0_HairBook.Hanks)), .d (.sl 3 (List.map e69 m0_HairBook.Horses)), .d (I m0_HairBook.Dark), .d (I m0_HairBook.Near), .d (I m0_HairBook.Match), .fmp (List.map m84_35 mf_1)]] []]), (4, .var 127 [.clo 112 [] [.ptr 0 0, .ptr 1 0, .ptr 2 0, .ptr 3 0, .ptr 4 0]])], 7, (fr_ s_2), [], 5⟩ (by kernel_rfl) (by kernel_rfl) ?_
        refine hQ_22 _ ?_
        refine AW.cond rfl (fun hb_29 => ?_) (fun hb_29 => ?_)
        ·have h := ifT hb_29 h
         refine AW.exit ?_
         refine hK_19 _ ?_
         refine AW.ra fokW [] ⟨[(0, .d (.sl 1 (List.map e3 plan))), (4, .ptr 2 0), (5, .ptr 3 0), (6, .ptr 4 0), (8, .ptr 5 0), (10, .d (I (plan.length : Int))), (11, .d (I need)), (42, .d (.sl 4 (List.map e58 o0_HairBook.Hanks))), (43, .d (I (o0_HairBook.Hanks.length : Int))), (44, .d (I (wr (v + 1))))], [(5, .var 92 [.d (I (cut 0)), .d (I (cut 1)), .d (I (cut 2)), .d (I (cut 3)), .d (I (cut 4))]), (0, .var 78 (catV (cv25 o0_HairBook) [.fmp (List.map m84_35 mf)])), (1, .var 127 [.yld]), (2, .var 99 [.d (.fn 107)]), (3, .var 65 [.clo 89 [.agg [.d (.sl 4 (List.map e58 m0_HairBook.Hanks)), .d (.sl 3 (List.map e69 m0_HairBook.Horses)), .d (I m0_HairBook.Dark), .d (I m0_HairBook.Near), .d (I m0_HairBook.Match), .fmp (List.map m84_35 mf_1)]] []]), (4, .var 127 [.clo 112 [] [.ptr 0 0, .ptr 1 0, .ptr 2 0, .ptr 3 0, .ptr 4 0]])], 7, (fr_ s_2), [], 5⟩ (by kernel_rfl) ?_
         obtain rfl := Option.some.inj h
         obtain rfl := Aft.bk hk_21
         have ew : wr (v + 1) = v + 1 := inext (N := (o0_HairBook.Hanks.length : Int)) (by omega) (by omega) (by omega)
         rw [ew]
         exact hK_16 _ _ rfl (Can.kp (by kernel_rfl))
        ·have h := ifF hb_29 h
         refine AW.skip ?_
         obtain rfl := Option.some.inj h
         exact hK_21 _ _ rfl (Can.kp (by kernel_rfl))
       ·have h := ifF hb_26 h
        refine RunC.auX 13 ⟨[(0, .d (.sl 1 (List.map e3 plan))), (4, .ptr 2 0), (5, .ptr 3 0), (6, .ptr 4 0), (8, .ptr 5 0), (10, .d (I (plan.length : Int))), (11, .d (I need)), (12, .d (I v)), (42, .d (.sl 4 (List.map e58 o0_HairBook.Hanks))), (43, .d (I (o0_HairBook.Hanks.length : Int))), (44, .d (I v)), (77, .d (.bool false))], [(6, .var 58 (cv58 p2)), (5, .var 92 [.d (I (cut 0)), .d (I (cut 1)), .d (I (cut 2)), .d (I (cut 3)), .d (I (cut 4))]), (0, .var 78 (catV (cv25 o0_HairBook) [.fmp (List.map m84_35 mf)])), (1, .var 127 [.yld]), (2, .var 99 [.d (.fn 107)]), (3, .var 65 [.clo 89 [.agg [.d (.sl 4 (List.map e58 m0_HairBook.Hanks)), .d (.sl 3 (List.map e69 m0_HairBook.Horses)), .d (I m0_HairBook.Dark), .d (I m0_HairBook.Near), .d (I m0_HairBook.Match), .fmp (List.map m84_35 mf_1)]] []]), (4, .var 127 [.clo 112 [] [.ptr 0 0, .ptr 1 0, .ptr 2 0, .ptr 3 0, .ptr 4 0]])], 7, (fr_ s_2), [], 5⟩ (by kernel_rfl) ?_
        refine RunC.fin ⟨[(0, .d (.sl 1 (List.map e3 plan))), (4, .ptr 2 0), (5, .ptr 3 0), (6, .ptr 4 0), (8, .ptr 5 0), (10, .d (I (plan.length : Int))), (11, .d (I need)), (12, .d (I v)), (42, .d (.sl 4 (List.map e58 o0_HairBook.Hanks))), (43, .d (I (o0_HairBook.Hanks.length : Int))), (44, .d (I v)), (77, .d (.bool false))], [(5, .var 92 [.d (I (cut 0)), .d (I (cut 1)), .d (I (cut 2)), .d (I (cut 3)), .d (I (cut 4))]), (0, .var 78 (catV (cv25 o0_HairBook) [.fmp (List.map m84_35 mf)])), (1, .var 127 [.yld]), (2, .var 99 [.d (.fn 107)]), (3, .var 65 [.clo 89 [.agg [.d (.sl 4 (List.map e58 m0_HairBook.Hanks)), .d (.sl 3 (List.map e69 m0_HairBook.Horses)), .d (I m0_HairBook.Dark), .d (I m0_HairBook.Near), .d (I m0_HairBook.Match), .fmp (List.map m84_35 mf_1)]] []]), (4, .var 127 [.clo 112 [] [.ptr 0 0, .ptr 1 0, .ptr 2 0, .ptr 3 0, .ptr 4 0]])], 7, (fr_ s_2), [], 5⟩ (by kernel_rfl) (by kernel_rfl) ?_
        refine hQ_22 _ ?_
        refine AW.condF rfl ?_
        refine AW.skip ?_
        obtain rfl := Option.some.inj h
        exact hK_21 _ _ rfl (Can.kp (by kernel_rfl))
     ·subst hj_21
      have h := Aft.nx hk_21
      refine AW.sa fokW [] ⟨[(0, .d (.sl 1 (List.map e3 plan))), (4, .ptr 2 0), (5, .ptr 3 0), (6, .ptr 4 0), (8, .ptr 5 0), (10, .d (I (plan.length : Int))), (11, .d (I need)), (12, .d (I v)), (14, .ptr 7 0), (42, .d (.sl 4 (List.map e58 o0_HairBook.Hanks))), (43, .d (I (o0_HairBook.Hanks.length : Int))), (44, .d (I v))], [(7, .var 92 [.d (I (cut 0)), .d (I (cut 1)), .d (I (cut 2)), .d (I (cut 3)), .d (I (cut 4))]), (5, .var 92 [.d (I (cut 0)), .d (I (cut 1)), .d (I (cut 2)), .d (I (cut 3)), .d (I (cut 4))]), (0, .var 78 (catV (cv25 o0_HairBook) [.fmp (List.map m84_35 mf)])), (1, .var 127 [.yld]), (2, .var 99 [.d (.fn 107)]), (3, .var 65 [.clo 89 [.agg [.d (.sl 4 (List.map e58 m0_HairBook.Hanks)), .d (.sl 3 (List.map e69 m0_HairBook.Horses)), .d (I m0_HairBook.Dark), .d (I m0_HairBook.Near), .d (I m0_HairBook.Match), .fmp (List.map m84_35 mf_1)]] []]), (4, .var 127 [.clo 112 [] [.ptr 0 0, .ptr 1 0, .ptr 2 0, .ptr 3 0, .ptr 4 0]])], 8, (fr_ s_2), [], 5⟩ (by kernel_rfl) ?_
      refine AW.srwK (fun Q_30 hQ_30 => ?_)
      refine RW.au fokW 1 [] ⟨[(0, .d (.sl 1 (List.map e3 plan))), (4, .ptr 2 0), (5, .ptr 3 0), (6, .ptr 4 0), (8, .ptr 5 0), (10, .d (I (plan.length : Int))), (11, .d (I need)), (12, .d (I v)), (14, .ptr 7 0), (42, .d (.sl 4 (List.map e58 o0_HairBook.Hanks))), (43, .d (I (o0_HairBook.Hanks.length : Int))), (44, .d (I v)), (79, .d (I v))], [(7, .var 92 [.d (I (cut 0)), .d (I (cut 1)), .d (I (cut 2)), .d (I (cut 3)), .d (I (cut 4))]), (5, .var 92 [.d (I (cut 0)), .d (I (cut 1)), .d (I (cut 2)), .d (I (cut 3)), .d (I (cut 4))]), (0, .var 78 (catV (cv25 o0_HairBook) [.fmp (List.map m84_35 mf)])), (1, .var 127 [.yld]), (2, .var 99 [.d (.fn 107)]), (3, .var 65 [.clo 89 [.agg [.d (.sl 4 (List.map e58 m0_HairBook.Hanks)), .d (.sl 3 (List.map e69 m0_HairBook.Horses)), .d (I m0_HairBook.Dark), .d (I m0_HairBook.Near), .d (I m0_HairBook.Match), .fmp (List.map m84_35 mf_1)]] []]), (4, .var 127 [.clo 112 [] [.ptr 0 0, .ptr 1 0, .ptr 2 0, .ptr 3 0, .ptr 4 0]])], 8, (fr_ s_2), [], 5⟩ (by kernel_rfl) ?_
      obtain ⟨j2, hv_31, h⟩ := bsome h
      refine RW.one fokW (r_iaV trivial rfl rfl rfl (ixN_ok hv_31).1 (ixN_ok hv_31).2.1 (r_end ?_))
      refine RW.one fokW (r_loadV trivial rfl rfl (u := .d (I (cut j2))) (agt (f := fun k => .d (I (cut k))) hv_31) (r_end ?_))
      refine RW.au fokW 2 [] ⟨[(0, .d (.sl 1 (List.map e3 plan))), (4, .ptr 2 0), (5, .ptr 3 0), (6, .ptr 4 0), (8, .ptr 5 0), (10, .d (I (plan.length : Int))), (11, .d (I need)), (12, .d (I v)), (14, .ptr 7 0), (42, .d (.sl 4 (List.map e58 o0_HairBook.Hanks))), (43, .d (I (o0_HairBook.Hanks.length : Int))), (44, .d (I v)), (79, .d (I v)), (83, .d (I (wr ((cut j2) + need))))], [(7, .var 92 [.d (I (cut 0)), .d (I (cut 1)), .d (I (cut 2)), .d (I (cut 3)), .d (I (cut 4))]), (5, .var 92 [.d (I (cut 0)), .d (I (cut 1)), .d (I (cut 2)), .d (I (cut 3)), .d (I (cut 4))]), (0, .var 78 (catV (cv25 o0_HairBook) [.fmp (List.map m84_35 mf)])), (1, .var 127 [.yld]), (2, .var 99 [.d (.fn 107)]), (3, .var 65 [.clo 89 [.agg [.d (.sl 4 (List.map e58 m0_HairBook.Hanks)), .d (.sl 3 (List.map e69 m0_HairBook.Horses)), .d (I m0_HairBook.Dark), .d (I m0_HairBook.Near), .d (I m0_HairBook.Match), .fmp (List.map m84_35 mf_1)]] []]), (4, .var 127 [.clo 112 [] [.ptr 0 0, .ptr 1 0, .ptr 2 0, .ptr 3 0, .ptr 4 0]])], 8, (fr_ s_2), [], 5⟩ (by kernel_rfl) ?_
      obtain ⟨j3, hv_32, h⟩ := bsome h
      refine RW.one fokW (r_iaV trivial rfl rfl rfl (ixN_ok hv_32).1 (ixN_ok hv_32).2.1 (r_end ?_))
      refine RW.one fokW (r_stX trivial rfl rfl rfl rfl rfl (aslot hv_32 rfl) (cs' := [.d (I ((aset cut j3 (wr ((cut j2) + need))) 0)), .d (I ((aset cut j3 (wr ((cut j2) + need))) 1)), .d (I ((aset cut j3 (wr ((cut j2) + need))) 2)), .d (I ((aset cut j3 (wr ((cut j2) + need))) 3)), .d (I ((aset cut j3 (wr ((cut j2) + need))) 4))]) (ast (w := cut) (c := fun z => .d (I z)) hv_32) (r_end ?_))
      refine RW.nil ?_
      refine hQ_30 _ ?_
      refine AW.sdrwK fokW (fun Q_33 hQ_33 => ?_)
      refine RunC.auX 4 ⟨[(0, .d (.sl 1 (List.map e3 plan))), (4, .ptr 2 0), (5, .ptr 3 0), (6, .ptr 4 0), (8, .ptr 5 0), (10, .d (I (plan.length : Int))), (11, .d (I need)), (12, .d (I v)), (14, .ptr 7 0), (42, .d (.sl 4 (List.map e58 o0_HairBook.Hanks))), (43, .d (I (o0_HairBook.Hanks.length : Int))), (44, .d (I v)), (85, .clo 112 [] [.ptr 0 0, .ptr 1 0, .ptr 2 0, .ptr 3 0, .ptr 4 0]), (86, .d (.sl 1 (List.map e3 plan))), (87, .d (I (plan.length : Int))), (88, .d (I (plan.length : Int)))], [(7, .var 92 [.d (I ((aset cut j3 (wr ((cut j2) + need))) 0)), .d (I ((aset cut j3 (wr ((cut j2) + need))) 1)), .d (I ((aset cut j3 (wr ((cut j2) + need))) 2)), .d (I ((aset cut j3 (wr ((cut j2) + need))) 3)), .d (I ((aset cut j3 (wr ((cut j2) + need))) 4))]), (5, .var 92 [.d (I (cut 0)), .d (I (cut 1)), .d (I (cut 2)), .d (I (cut 3)), .d (I (cut 4))]), (0, .var 78 (catV (cv25 o0_HairBook) [.fmp (List.map m84_35 mf)])), (1, .var 127 [.yld]), (2, .var 99 [.d (.fn 107)]), (3, .var 65 [.clo 89 [.agg [.d (.sl 4 (List.map e58 m0_HairBook.Hanks)), .d (.sl 3 (List.map e69 m0_HairBook.Horses)), .d (I m0_HairBook.Dark), .d (I m0_HairBook.Near), .d (I m0_HairBook.Match), .fmp (List.map m84_35 mf_1)]] []]), (4, .var 127 [.clo 112 [] [.ptr 0 0, .ptr 1 0, .ptr 2 0, .ptr 3 0, .ptr 4 0]])], 8, (fr_ s_2), [], 5⟩ (by kernel_rfl) ?_
      obtain ⟨l, hv_34, h⟩ := bsome h
      refine r_slN trivial rfl rfl rfl DSl.d (slcL_ok hv_34).2.1 (by rw [List.length_map]; exact (slcL_ok hv_34).2.2.1) rfl (slz hv_34 e3) ?_
      refine RunC.auX 2 ⟨[(0, .d (.sl 1 (List.map e3 plan))), (4, .ptr 2 0), (5, .ptr 3 0), (6, .ptr 4 0), (8, .ptr 5 0), (10, .d (I (plan.length : Int))), (11, .d (I need)), (14, .ptr 7 0), (42, .d (.sl 4 (List.map e58 o0_HairBook.Hanks))), (43, .d (I (o0_HairBook.Hanks.length : Int))), (44, .d (I v)), (85, .clo 112 [] [.ptr 0 0, .ptr 1 0, .ptr 2 0, .ptr 3 0, .ptr 4 0]), (89, .fsl 1 (List.map e3 l)), (91, .own 8 (List.map e3 [v]).length)], [(8, .row 3 1 (List.map e3 [v])), (7, .var 92 [.d (I ((aset cut j3 (wr ((cut j2) + need))) 0)), .d (I ((aset cut j3 (wr ((cut j2) + need))) 1)), .d (I ((aset cut j3 (wr ((cut j2) + need))) 2)), .d (I ((aset cut j3 (wr ((cut j2) + need))) 3)), .d (I ((aset cut j3 (wr ((cut j2) + need))) 4))]), (5, .var 92 [.d (I (cut 0)), .d (I (cut 1)), .d (I (cut 2)), .d (I (cut 3)), .d (I (cut 4))]), (0, .var 78 (catV (cv25 o0_HairBook) [.fmp (List.map m84_35 mf)])), (1, .var 127 [.yld]), (2, .var 99 [.d (.fn 107)]), (3, .var 65 [.clo 89 [.agg [.d (.sl 4 (List.map e58 m0_HairBook.Hanks)), .d (.sl 3 (List.map e69 m0_HairBook.Horses)), .d (I m0_HairBook.Dark), .d (I m0_HairBook.Near), .d (I m0_HairBook.Match), .fmp (List.map m84_35 mf_1)]] []]), (4, .var 127 [.clo 112 [] [.ptr 0 0, .ptr 1 0, .ptr 2 0, .ptr 3 0, .ptr 4 0]])], 9, (fr_ s_2), [], 5⟩ (by kernel_rfl) ?_
      obtain ⟨l1, hv_35, h⟩ := bsome h
      refine r_apF trivial rfl rfl rfl rfl (by simp) (zs := List.map e3 l1) (apz hv_35 e3) (apr hv_35 e3) ?_
      refine RunC.auX 1 ⟨[(0, .d (.sl 1 (List.map e3 plan))), (4, .ptr 2 0), (5, .ptr 3 0), (6, .ptr 4 0), (8, .ptr 5 0), (10, .d (I (plan.length : Int))), (11, .d (I need)), (42, .d (.sl 4 (List.map e58 o0_HairBook.Hanks))), (43, .d (I (o0_HairBook.Hanks.length : Int))), (44, .d (I v)), (85, .clo 112 [] [.ptr 0 0, .ptr 1 0, .ptr 2 0, .ptr 3 0, .ptr 4 0]), (92, .own 9 (List.map e3 l1).length), (93, .agg [.d (I ((aset cut j3 (wr ((cut j2) + need))) 0)), .d (I ((aset cut j3 (wr ((cut j2) + need))) 1)), .d (I ((aset cut j3 (wr ((cut j2) + need))) 2)), .d (I ((aset cut j3 (wr ((cut j2) + need))) 3)), .d (I ((aset cut j3 (wr ((cut j2) + need))) 4))])], [(9, .row 3 1 (List.map e3 l1)), (8, .row 3 1 (List.map e3 [v])), (7, .var 92 [.d (I ((aset cut j3 (wr ((cut j2) + need))) 0)), .d (I ((aset cut j3 (wr ((cut j2) + need))) 1)), .d (I ((aset cut j3 (wr ((cut j2) + need))) 2)), .d (I ((aset cut j3 (wr ((cut j2) + need))) 3)), .d (I ((aset cut j3 (wr ((cut j2) + need))) 4))]), (5, .var 92 [.d (I (cut 0)), .d (I (cut 1)), .d (I (cut 2)), .d (I (cut 3)), .d (I (cut 4))]), (0, .var 78 (catV (cv25 o0_HairBook) [.fmp (List.map m84_35 mf)])), (1, .var 127 [.yld]), (2, .var 99 [.d (.fn 107)]), (3, .var 65 [.clo 89 [.agg [.d (.sl 4 (List.map e58 m0_HairBook.Hanks)), .d (.sl 3 (List.map e69 m0_HairBook.Horses)), .d (I m0_HairBook.Dark), .d (I m0_HairBook.Near), .d (I m0_HairBook.Match), .fmp (List.map m84_35 mf_1)]] []]), (4, .var 127 [.clo 112 [] [.ptr 0 0, .ptr 1 0, .ptr 2 0, .ptr 3 0, .ptr 4 0]])], 10, (fr_ s_2), [], 5⟩ (by kernel_rfl) ?_
      obtain ⟨⟨r0_7_1, s_5_1⟩, hx_36, h⟩ := bsome h
      refine r_callvS (zr := [(9, .row 3 1 (List.map e3 l1))]) [0, 1, 2, 3, 4] trivial rfl (.clo _ _ _) (by kernel_rfl) rfl (ih l1 (aset cut j3 (wr ((cut j2) + need))) o0_HairBook mf m0_HairBook mf_1 s_2 _ hx_36) ⟨rfl, rfl, rfl, rfl, rfl, rfl, trivial⟩ rfl rfl ⟨(.own rfl rfl), .refl _, .refl _, .refl _, .refl _, .refl _, .refl _, trivial⟩ rfl rfl rfl ?_
      refine RunC.auX 1 ⟨[(0, .d (.sl 1 (List.map e3 plan))), (4, .ptr 2 0), (5, .ptr 3 0), (6, .ptr 4 0), (8, .ptr 5 0), (10, .d (I (plan.length : Int))), (11, .d (I need)), (42, .d (.sl 4 (List.map e58 o0_HairBook.Hanks))), (43, .d (I (o0_HairBook.Hanks.length : Int))), (44, .d (I v)), (95, .d (.bool (!r0_7_1)))], [(0, .var 78 (catV (cv25 o0_HairBook) [.fmp (List.map m84_35 mf)])), (1, .var 127 [.yld]), (2, .var 99 [.d (.fn 107)]), (3, .var 65 [.clo 89 [.agg [.d (.sl 4 (List.map e58 m0_HairBook.Hanks)), .d (.sl 3 (List.map e69 m0_HairBook.Horses)), .d (I m0_HairBook.Dark), .d (I m0_HairBook.Near), .d (I m0_HairBook.Match), .fmp (List.map m84_35 mf_1)]] []]), (4, .var 127 [.clo 112 [] [.ptr 0 0, .ptr 1 0, .ptr 2 0, .ptr 3 0, .ptr 4 0]]), (9, .dead), (8, .row 3 1 (List.map e3 [v])), (7, .var 92 [.d (I ((aset cut j3 (wr ((cut j2) + need))) 0)), .d (I ((aset cut j3 (wr ((cut j2) + need))) 1)), .d (I ((aset cut j3 (wr ((cut j2) + need))) 2)), .d (I ((aset cut j3 (wr ((cut j2) + need))) 3)), .d (I ((aset cut j3 (wr ((cut j2) + need))) 4))]), (5, .var 92 [.d (I (cut 0)), .d (I (cut 1)), .d (I (cut 2)), .d (I (cut 3)), .d (I (cut 4))])], 10, (fr_ s_5_1), [], 5⟩ (by kernel_rfl) ?_
      refine RunC.fin ⟨[(0, .d (.sl 1 (List.map e3 plan))), (4, .ptr 2 0), (5, .ptr 3 0), (6, .ptr 4 0), (8, .ptr 5 0), (10, .d (I (plan.length : Int))), (11, .d (I need)), (42, .d (.sl 4 (List.map e58 o0_HairBook.Hanks))), (43, .d (I (o0_HairBook.Hanks.length : Int))), (44, .d (I v)), (95, .d (.bool (!r0_7_1)))], [(0, .var 78 (catV (cv25 o0_HairBook) [.fmp (List.map m84_35 mf)])), (1, .var 127 [.yld]), (2, .var 99 [.d (.fn 107)]), (3, .var 65 [.clo 89 [.agg [.d (.sl 4 (List.map e58 m0_HairBook.Hanks)), .d (.sl 3 (List.map e69 m0_HairBook.Horses)), .d (I m0_HairBook.Dark), .d (I m0_HairBook.Near), .d (I m0_HairBook.Match), .fmp (List.map m84_35 mf_1)]] []]), (4, .var 127 [.clo 112 [] [.ptr 0 0, .ptr 1 0, .ptr 2 0, .ptr 3 0, .ptr 4 0]]), (5, .var 92 [.d (I (cut 0)), .d (I (cut 1)), .d (I (cut 2)), .d (I (cut 3)), .d (I (cut 4))])], 10, (fr_ s_5_1), [], 5⟩ (by kernel_rfl) (by kernel_rfl) ?_
      refine hQ_33 _ ?_
      refine AW.cond rfl (fun hb_37 => ?_) (fun hb_37 => ?_)
      ·have h := ifT hb_37 h
       refine AW.sa fokW [] ⟨[(9, .d (.bool false))], [(0, .var 78 (catV (cv25 o0_HairBook) [.fmp (List.map m84_35 mf)])), (1, .var 127 [.yld]), (2, .var 99 [.d (.fn 107)]), (3, .var 65 [.clo 89 [.agg [.d (.sl 4 (List.map e58 m0_HairBook.Hanks)), .d (.sl 3 (List.map e69 m0_HairBook.Horses)), .d (I m0_HairBook.Dark), .d (I m0_HairBook.Near), .d (I m0_HairBook.Match), .fmp (List.map m84_35 mf_1)]] []]), (4, .var 127 [.clo 112 [] [.ptr 0 0, .ptr 1 0, .ptr 2 0, .ptr 3 0, .ptr 4 0]])], 10, (fr_ s_5_1), [], 5⟩ (by kernel_rfl) ?_
       obtain rfl := Option.some.inj h
       have e_1 := hb_16 _ rfl
       subst e_1
       obtain rfl := Aft.bk hk_16
       exact AW.ret (hR_0 _ (retX (.cons (.tmp rfl) .nil) (.refl _) rfl (by kernel_rfl) (by kernel_rfl)))
      ·have h := ifF hb_37 h
       refine AW.skip ?_
       refine hK_19 _ ?_
       refine AW.ra fokW [] ⟨[(0, .d (.sl 1 (List.map e3 plan))), (4, .ptr 2 0), (5, .ptr 3 0), (6, .ptr 4 0), (8, .ptr 5 0), (10, .d (I (plan.length : Int))), (11, .d (I need)), (42, .d (.sl 4 (List.map e58 o0_HairBook.Hanks))), (43, .d (I (o0_HairBook.Hanks.length : Int))), (44, .d (I (wr (v + 1))))], [(0, .var 78 (catV (cv25 o0_HairBook) [.fmp (List.map m84_35 mf)])), (1, .var 127 [.yld]), (2, .var 99 [.d (.fn 107)]), (3, .var 65 [.clo 89 [.agg [.d (.sl 4 (List.map e58 m0_HairBook.Hanks)), .d (.sl 3 (List.map e69 m0_HairBook.Horses)), .d (I m0_HairBook.Dark), .d (I m0_HairBook.Near), .d (I m0_HairBook.Match), .fmp (List.map m84_35 mf_1)]] []]), (4, .var 127 [.clo 112 [] [.ptr 0 0, .ptr 1 0, .ptr 2 0, .ptr 3 0, .ptr 4 0]]), (5, .var 92 [.d (I (cut 0)), .d (I (cut 1)), .d (I (cut 2)), .d (I (cut 3)), .d (I (cut 4))])], 10, (fr_ s_5_1), [], 5⟩ (by kernel_rfl) ?_
       obtain rfl := Option.some.inj h
       have ew : wr (v + 1) = v + 1 := inext (N := (o0_HairBook.Hanks.length : Int)) (by omega) (by omega) (by omega)
       rw [ew]
       exact hK_16 _ _ rfl (Can.kp (by kernel_rfl))
    ·subst hout
     have h := Aft.nx hk_16
     refine AW.sa fokW [] ⟨[(0, .d (.sl 1 (List.map e3 plan))), (4, .ptr 2 0), (5, .ptr 3 0), (6, .ptr 4 0), (8, .ptr 5 0), (10, .d (I (plan.length : Int))), (11, .d (I need)), (42, .d (.sl 4 (List.map e58 o0_HairBook.Hanks))), (43, .d (I (o0_HairBook.Hanks.length : Int))), (44, .d (I v)), (45, .d (.bool (decide (v < (o0_HairBook.Hanks.length : Int)))))], [(5, .var 92 [.d (I (cut 0)), .d (I (cut 1)), .d (I (cut 2)), .d (I (cut 3)), .d (I (cut 4))]), (0, .var 78 (catV (cv25 o0_HairBook) [.fmp (List.map m84_35 mf)])), (1, .var 127 [.yld]), (2, .var 99 [.d (.fn 107)]), (3, .var 65 [.clo 89 [.agg [.d (.sl 4 (List.map e58 m0_HairBook.Hanks)), .d (.sl 3 (List.map e69 m0_HairBook.Horses)), .d (I m0_HairBook.Dark), .d (I m0_HairBook.Near), .d (I m0_HairBook.Match), .fmp (List.map m84_35 mf_1)]] []]), (4, .var 127 [.clo 112 [] [.ptr 0 0, .ptr 1 0, .ptr 2 0, .ptr 3 0, .ptr 4 0]])], 6, (fr_ s_2), [], 5⟩ (by kernel_rfl) ?_
     refine AW.seqK (fun K_38 hK_38 => ?_)
     refine AW.cond rfl (fun hb_39 => False.elim (by have := of_decide_eq_true hb_39; omega)) (fun hb_39 => ?_)
     refine AW.exit ?_
     refine hK_14 _ ?_
     refine AW.sa fokW [] ⟨[(9, .d (.bool true))], [(0, .var 78 (catV (cv25 o0_HairBook) [.fmp (List.map m84_35 mf)])), (1, .var 127 [.yld]), (2, .var 99 [.d (.fn 107)]), (3, .var 65 [.clo 89 [.agg [.d (.sl 4 (List.map e58 m0_HairBook.Hanks)), .d (.sl 3 (List.map e69 m0_HairBook.Horses)), .d (I m0_HairBook.Dark), .d (I m0_HairBook.Near), .d (I m0_HairBook.Match), .fmp (List.map m84_35 mf_1)]] []]), (4, .var 127 [.clo 112 [] [.ptr 0 0, .ptr 1 0, .ptr 2 0, .ptr 3 0, .ptr 4 0]])], 6, (fr_ s_2), [], 5⟩ (by kernel_rfl) ?_
     obtain rfl := Option.some.inj h
     exact AW.ret (hR_0 _ (retX (.cons (.tmp rfl) .nil) (.refl _) rfl (by kernel_rfl) (by kernel_rfl)))
def g111 {S_ : Type} (c_ : (List Int) → (Nat → Int) → S_ → Option (S_ × Bool)) (o0_HairBook : HairBook) (mf : List (Hair_dye × Span)) (m0_HairBook : HairBook) (mf_1 : List (Hair_dye × Span)) (s_ : S_) : Option S_ := (g105).bind fun r0 => (g112 c_ 1000 ([] : (List Int)) r0 o0_HairBook mf m0_HairBook mf_1 s_).bind fun (r0_7, s_5) => some s_5
theorem k111 {S_ : Type} (fr_ : S_ → Fr) (c_ : (List Int) → (Nat → Int) → S_ → Option (S_ × Bool)) (hc_ : ∀ (a0 : (List Int)) (a1 : (Nat → Int)) s s2 b, c_ a0 a1 s = some (s2, b) → YCall Tryd.prog Gs (fr_ s) [.d (.sl 1 (List.map e3 a0)), .agg [.d (I (a1 0)), .d (I (a1 1)), .d (I (a1 2)), .d (I (a1 3)), .d (I (a1 4))]] (.d (.bool b)) (fr_ s2)) (o0_HairBook : HairBook) (mf : List (Hair_dye × Span)) (m0_HairBook : HairBook) (mf_1 : List (Hair_dye × Span)) (s_ : S_) (r : S_) (h : g111 c_ o0_HairBook mf m0_HairBook mf_1 s_ = some r) : SCall Tryd.prog Gs 111 [.yld, .ptr 0 0, .ptr 1 0, .ptr 2 0] [(0, .var 78 (catV (cv25 o0_HairBook) [.fmp (List.map m84_35 mf)])), (1, .var 99 [.d (.fn 107)]), (2, .var 65 [.clo 89 [.agg [.d (.sl 4 (List.map e58 m0_HairBook.Hanks)), .d (.sl 3 (List.map e69 m0_HairBook.Horses)), .d (I m0_HairBook.Dark), .d (I m0_HairBook.Near), .d (I m0_HairBook.Match), .fmp (List.map m84_35 mf_1)]] []])] 3 (fr_ s_) (.tup []) [(0, .var 78 (catV (cv25 o0_HairBook) [.fmp (List.map m84_35 mf)])), (1, .var 99 [.d (.fn 107)]), (2, .var 65 [.clo 89 [.agg [.d (.sl 4 (List.map e58 m0_HairBook.Hanks)), .d (.sl 3 (List.map e69 m0_HairBook.Horses)), .d (I m0_HairBook.Dark), .d (I m0_HairBook.Near), .d (I m0_HairBook.Match), .fmp (List.map m84_35 mf_1)]] []])] 3 (fr_ r) := by
 unfold g111 at h
 refine SCall.mkK Tryd.func111 c111 rfl rfl (by kernel_rfl) (fun Q_0 hR_0 hN_0 => ?_)
 refine AW.sa fokW [] ⟨[(1, .ptr 0 0), (2, .ptr 1 0), (3, .ptr 2 0), (4, .ptr 3 0)], [(3, .var 127 [.yld]), (0, .var 78 (catV (cv25 o0_HairBook) [.fmp (List.map m84_35 mf)])), (1, .var 99 [.d (.fn 107)]), (2, .var 65 [.clo 89 [.agg [.d (.sl 4 (List.map e58 m0_HairBook.Hanks)), .d (.sl 3 (List.map e69 m0_HairBook.Horses)), .d (I m0_HairBook.Dark), .d (I m0_HairBook.Near), .d (I m0_HairBook.Match), .fmp (List.map m84_35 mf_1)]] []])], 4, (fr_ s_), [], 3⟩ (by kernel_rfl) ?_
 refine AW.sa fokW [] ⟨[(1, .ptr 0 0), (2, .ptr 1 0), (3, .ptr 2 0), (4, .ptr 3 0), (5, .ptr 4 0)], [(4, .var 127 [.d (.nilFn)]), (3, .var 127 [.yld]), (0, .var 78 (catV (cv25 o0_HairBook) [.fmp (List.map m84_35 mf)])), (1, .var 99 [.d (.fn 107)]), (2, .var 65 [.clo 89 [.agg [.d (.sl 4 (List.map e58 m0_HairBook.Hanks)), .d (.sl 3 (List.map e69 m0_HairBook.Horses)), .d (I m0_HairBook.Dark), .d (I m0_HairBook.Near), .d (I m0_HairBook.Match), .fmp (List.map m84_35 mf_1)]] []])], 5, (fr_ s_), [], 3⟩ (by kernel_rfl) ?_
 refine AW.sa fokW [] ⟨[(5, .ptr 4 0)], [(4, .var 127 [.clo 112 [] [.ptr 0 0, .ptr 3 0, .ptr 1 0, .ptr 2 0, .ptr 4 0]]), (3, .var 127 [.yld]), (0, .var 78 (catV (cv25 o0_HairBook) [.fmp (List.map m84_35 mf)])), (1, .var 99 [.d (.fn 107)]), (2, .var 65 [.clo 89 [.agg [.d (.sl 4 (List.map e58 m0_HairBook.Hanks)), .d (.sl 3 (List.map e69 m0_HairBook.Horses)), .d (I m0_HairBook.Dark), .d (I m0_HairBook.Near), .d (I m0_HairBook.Match), .fmp (List.map m84_35 mf_1)]] []])], 5, (fr_ s_), [], 3⟩ (by kernel_rfl) ?_
 refine AW.drw fokW ?_
 refine RunC.auX 1 ⟨[(7, .clo 112 [] [.ptr 0 0, .ptr 3 0, .ptr 1 0, .ptr 2 0, .ptr 4 0])], [(4, .var 127 [.clo 112 [] [.ptr 0 0, .ptr 3 0, .ptr 1 0, .ptr 2 0, .ptr 4 0]]), (3, .var 127 [.yld]), (0, .var 78 (catV (cv25 o0_HairBook) [.fmp (List.map m84_35 mf)])), (1, .var 99 [.d (.fn 107)]), (2, .var 65 [.clo 89 [.agg [.d (.sl 4 (List.map e58 m0_HairBook.Hanks)), .d (.sl 3 (List.map e69 m0_HairBook.Horses)), .d (I m0_HairBook.Dark), .d (I m0_HairBook.Near), .d (I m0_HairBook.Match), .fmp (List.map m84_35 mf_1)]] []])], 5, (fr_ s_), [], 3⟩ (by kernel_rfl) ?_
 obtain ⟨r0, hx_2, h⟩ := bsome h
 refine r_call trivial rfl (k105 _ hx_2) rfl rfl ?_
 obtain ⟨⟨r0_7, s_5⟩, hx_3, h⟩ := bsome h
 refine r_callvS (zr := []) [0, 3, 1, 2, 4] trivial rfl (.clo _ _ _) (by kernel_rfl) rfl (k112 fr_ c_ hc_ 1000 ([] : (List Int)) r0 o0_HairBook mf m0_HairBook mf_1 s_ _ hx_3) ⟨rfl, rfl, rfl, rfl, rfl, trivial⟩ rfl rfl ⟨(.nil 1), .refl _, .refl _, .refl _, .refl _, .refl _, .refl _, trivial⟩ rfl rfl rfl ?_
 refine RunC.fin ⟨[], [(0, .var 78 (catV (cv25 o0_HairBook) [.fmp (List.map m84_35 mf)])), (1, .var 99 [.d (.fn 107)]), (2, .var 65 [.clo 89 [.agg [.d (.sl 4 (List.map e58 m0_HairBook.Hanks)), .d (.sl 3 (List.map e69 m0_HairBook.Horses)), .d (I m0_HairBook.Dark), .d (I m0_HairBook.Near), .d (I m0_HairBook.Match), .fmp (List.map m84_35 mf_1)]] []])], 5, (fr_ s_5), [], 3⟩ (by kernel_rfl) (by kernel_rfl) ?_
 obtain rfl := Option.some.inj h
 exact hN_0 _ (retX .nil (.refl _) rfl (by kernel_rfl) (by kernel_rfl))
def g81_r5 (b_HairBook : HairBook) (mf : List (Hair_dye × Span)) : ((List Int) × (Nat → Int)) → ((List Int) × Int × Bool) → Option (Ctl ((List Int) × Int × Bool) (Unit)) := fun (a, a1) (v, v1, v2) => (g77).bind fun _ => (g75a b_HairBook mf a1).bind fun r0_3 => bif ((!v2) || (decide (r0_3 < v1))) then (some (.next (a, r0_3, true))) else (some (.next (v, v1, v2)))
def g81 (b_HairBook : HairBook) (mf : List (Hair_dye × Span)) : Option ((List Int) × Bool) := (g76).bind fun _ => (g88 b_HairBook mf b_HairBook mf).bind fun (o0_HairBook, mf1) => (g111 (fun a a1 s => rndC (g81_r5 b_HairBook mf) (a, a1) s) o0_HairBook mf1 b_HairBook mf (.next (([], 0, false) : (List Int) × Int × Bool))).bind fun out_5 => match out_5 with | .next (v, v1, v2) => some (v, v2) | .brk _ => none
theorem k81 (b_HairBook : HairBook) (mf : List (Hair_dye × Span)) (r : (List Int) × Bool) (h : g81 b_HairBook mf = some r) : SCall Tryd.prog Gs 81 [.agg [.d (.sl 4 (List.map e58 b_HairBook.Hanks)), .d (.sl 3 (List.map e69 b_HairBook.Horses)), .d (I b_HairBook.Dark), .d (I b_HairBook.Near), .d (I b_HairBook.Match), .fmp (List.map m84_35 mf)]] [] 0 Fr.emp (match r with | (r0, r1) => .tup [.d (.sl 1 (List.map e3 r0)), .d (.bool r1)]) [] 0 Fr.emp := by
 unfold g81 at h
 refine SCall.mkK Tryd.func81 c81 rfl rfl (by kernel_rfl) (fun Q_0 hR_0 hN_0 => ?_)
 refine AW.sa fokW [] ⟨[(1, .ptr 0 0)], [(0, .var 78 (catV (cv25 b_HairBook) [.fmp (List.map m84_35 mf)]))], 1, Fr.emp, [], 0⟩ (by kernel_rfl) ?_
 refine AW.sa fokW [] ⟨[(1, .ptr 0 0), (4, .ptr 1 0)], [(1, .var 26 [.d (.nilSl)]), (0, .var 78 (catV (cv25 b_HairBook) [.fmp (List.map m84_35 mf)]))], 2, Fr.emp, [], 0⟩ (by kernel_rfl) ?_
 refine AW.sa fokW [] ⟨[(1, .ptr 0 0), (4, .ptr 1 0), (5, .ptr 2 0), (6, .ptr 3 0)], [(3, .var 4 [.d (.bool false)]), (2, .var 3 [.d (I 0)]), (1, .var 26 [.d (.nilSl)]), (0, .var 78 (catV (cv25 b_HairBook) [.fmp (List.map m84_35 mf)]))], 4, Fr.emp, [], 0⟩ (by kernel_rfl) ?_
 refine AW.seqK (fun K_1 hK_1 => ?_)
 refine AW.sdrwK fokW (fun Q_2 hQ_2 => ?_)
 refine RunC.auX 1 ⟨[(1, .ptr 0 0), (4, .ptr 1 0), (5, .ptr 2 0), (6, .ptr 3 0), (10, .agg [.d (.sl 4 (List.map e58 b_HairBook.Hanks)), .d (.sl 3 (List.map e69 b_HairBook.Horses)), .d (I b_HairBook.Dark), .d (I b_HairBook.Near), .d (I b_HairBook.Match), .fmp (List.map m84_35 mf)])], [(3, .var 4 [.d (.bool false)]), (2, .var 3 [.d (I 0)]), (1, .var 26 [.d (.nilSl)]), (0, .var 78 (catV (cv25 b_HairBook) [.fmp (List.map m84_35 mf)]))], 4, Fr.emp, [], 0⟩ (by kernel_rfl) ?_
 obtain ⟨⟨⟩, hx_3, h⟩ := bsome h
 refine r_call trivial rfl (k76 _ hx_3) rfl rfl ?_
 refine RunC.auX 2 ⟨[(1, .ptr 0 0), (4, .ptr 1 0), (5, .ptr 2 0), (6, .ptr 3 0), (10, .agg [.d (.sl 4 (List.map e58 b_HairBook.Hanks)), .d (.sl 3 (List.map e69 b_HairBook.Horses)), .d (I b_HairBook.Dark), .d (I b_HairBook.Near), .d (I b_HairBook.Match), .fmp (List.map m84_35 mf)]), (11, .agg [.d (.fn 107)]), (13, .clo 89 [.agg [.d (.sl 4 (List.map e58 b_HairBook.Hanks)), .d (.sl 3 (List.map e69 b_HairBook.Horses)), .d (I b_HairBook.Dark), .d (I b_HairBook.Near), .d (I b_HairBook.Match), .fmp (List.map m84_35 mf)]] [])], [(3, .var 4 [.d (.bool false)]), (2, .var 3 [.d (I 0)]), (1, .var 26 [.d (.nilSl)]), (0, .var 78 (catV (cv25 b_HairBook) [.fmp (List.map m84_35 mf)]))], 4, Fr.emp, [], 0⟩ (by kernel_rfl) ?_
 obtain ⟨⟨o0_HairBook, mf1⟩, hx_4, h⟩ := bsome h
 refine r_callS (zr := []) [] trivial rfl (k88 b_HairBook mf b_HairBook mf _ hx_4) trivial rfl rfl ⟨.refl _, .refl _, .refl _, trivial⟩ rfl rfl rfl ?_
 refine RunC.fin ⟨[(1, .ptr 0 0), (4, .ptr 1 0), (5, .ptr 2 0), (6, .ptr 3 0), (14, .clo 111 [] [.ptr 4 0, .ptr 5 0, .ptr 6 0])], [(4, .var 78 (catV (cv25 o0_HairBook) [.fmp (List.map m84_35 mf1)])), (5, .var 99 [.d (.fn 107)]), (6, .var 65 [.clo 89 [.agg [.d (.sl 4 (List.map e58 b_HairBook.Hanks)), .d (.sl 3 (List.map e69 b_HairBook.Horses)), .d (I b_HairBook.Dark), .d (I b_HairBook.Near), .d (I b_HairBook.Match), .fmp (List.map m84_35 mf)]] []]), (3, .var 4 [.d (.bool false)]), (2, .var 3 [.d (I 0)]), (1, .var 26 [.d (.nilSl)]), (0, .var 78 (catV (cv25 b_HairBook) [.fmp (List.map m84_35 mf)]))], 7, Fr.emp, [], 0⟩ (by kernel_rfl) (by kernel_rfl) ?_
 refine hQ_2 _ ?_
 refine AW.block ?_
 refine AW.can (Can.wkH 1 0 1 rfl rfl) ?_
 obtain ⟨out_5, hx_5, h⟩ := bsome h
 refine AW.rfX (fun (⟨v, v1, v2⟩ : (List Int) × Int × Bool) => [(7, .dm), (3, .var 4 [.d (.bool v2)]), (2, .var 3 [.d (I v1)]), (1, .var 26 [.d (.sl 1 (List.map e3 v))]), (0, .var 78 (catV (cv25 b_HairBook) [.fmp (List.map m84_35 mf)]))]) (fun (_ : Unit) => []) (fun _ => some .ret) (g81_r5 b_HairBook mf) (fun (⟨a, a1⟩ : (List Int) × (Nat → Int)) => [.d (.sl 1 (List.map e3 a)), .agg [.d (I (a1 0)), .d (I (a1 1)), .d (I (a1 2)), .d (I (a1 3)), .d (I (a1 4))]]) (s0 := (([], 0, false) : (List Int) × Int × Bool)) (out := out_5) [(1, .ptr 0 0), (4, .ptr 1 0), (5, .ptr 2 0), (6, .ptr 3 0)] [(3, .var 4 [.d (.bool false)]), (2, .var 3 [.d (I 0)]), (1, .var 26 [.d (.sl 1 (List.map e3 []))]), (0, .var 78 (catV (cv25 b_HairBook) [.fmp (List.map m84_35 mf)]))] [4, 5, 6] rfl (.clo _ _ _) (by kernel_rfl) (by kernel_rfl) (fun fr_ hY_5 => k111 fr_ _ (fun a a1 s s2 b h => hY_5 (a, a1) s s2 b h) o0_HairBook mf1 b_HairBook mf (.next (([], 0, false) : (List Int) × Int × Bool)) _ hx_5) (by kernel_rfl) ⟨rfl, rfl, rfl, trivial⟩ rfl ⟨rfl, rfl⟩ rfl rfl (fun _ => rfl) (fun _ => rfl) (fun a_5 s_5 c_5 h l_5 => ?_) (fun _ => rfl) ?_
 ·obtain ⟨a, a1⟩ := a_5
  obtain ⟨v, v1, v2⟩ := s_5
  unfold g81_r5 at h
  refine AW.sa (fokR l_5) [] ⟨[(1, .ptr 0 0), (4, .ptr 1 0), (5, .ptr 2 0), (6, .ptr 3 0), (7, .d (.sl 1 (List.map e3 a))), (16, .agg [.d (I (a1 0)), .d (I (a1 1)), .d (I (a1 2)), .d (I (a1 3)), .d (I (a1 4))])], [(7, .dm), (3, .var 4 [.d (.bool v2)]), (2, .var 3 [.d (I v1)]), (1, .var 26 [.d (.sl 1 (List.map e3 v))]), (0, .var 78 (catV (cv25 b_HairBook) [.fmp (List.map m84_35 mf)]))], 8, Fr.emp, [], 8⟩ (by kernel_rfl) ?_
  refine AW.ra (fokR l_5) [] ⟨[(1, .ptr 0 0), (4, .ptr 1 0), (5, .ptr 2 0), (6, .ptr 3 0), (7, .d (.sl 1 (List.map e3 a))), (8, .ptr 8 0)], [(8, .var 92 [.d (I (a1 0)), .d (I (a1 1)), .d (I (a1 2)), .d (I (a1 3)), .d (I (a1 4))]), (7, .dm), (3, .var 4 [.d (.bool v2)]), (2, .var 3 [.d (I v1)]), (1, .var 26 [.d (.sl 1 (List.map e3 v))]), (0, .var 78 (catV (cv25 b_HairBook) [.fmp (List.map m84_35 mf)]))], 9, Fr.emp, [], 8⟩ (by kernel_rfl) ?_
  refine AW.block ?_
  refine AW.sdrwK (fokR l_5) (fun Q_6 hQ_6 => ?_)
  refine RunC.auX 2 ⟨[(4, .ptr 1 0), (5, .ptr 2 0), (6, .ptr 3 0), (7, .d (.sl 1 (List.map e3 a))), (17, .agg [.d (.sl 4 (List.map e58 b_HairBook.Hanks)), .d (.sl 3 (List.map e69 b_HairBook.Horses)), .d (I b_HairBook.Dark), .d (I b_HairBook.Near), .d (I b_HairBook.Match), .fmp (List.map m84_35 mf)]), (18, .agg [.d (I (a1 0)), .d (I (a1 1)), .d (I (a1 2)), .d (I (a1 3)), .d (I (a1 4))])], [(8, .var 92 [.d (I (a1 0)), .d (I (a1 1)), .d (I (a1 2)), .d (I (a1 3)), .d (I (a1 4))]), (7, .dm), (3, .var 4 [.d (.bool v2)]), (2, .var 3 [.d (I v1)]), (1, .var 26 [.d (.sl 1 (List.map e3 v))]), (0, .var 78 (catV (cv25 b_HairBook) [.fmp (List.map m84_35 mf)]))], 9, Fr.emp, [], 8⟩ (by kernel_rfl) ?_
  obtain ⟨⟨⟩, hx_7, h⟩ := bsome h
  refine r_call trivial rfl (k77 _ hx_7) rfl rfl ?_
  obtain ⟨r0_3, hx_8, h⟩ := bsome h
  refine r_call trivial rfl (k75a b_HairBook mf a1 _ hx_8) rfl rfl ?_
  refine RunC.auX 1 ⟨[(4, .ptr 1 0), (5, .ptr 2 0), (6, .ptr 3 0), (7, .d (.sl 1 (List.map e3 a))), (9, .d (I r0_3))], [(8, .var 92 [.d (I (a1 0)), .d (I (a1 1)), .d (I (a1 2)), .d (I (a1 3)), .d (I (a1 4))]), (7, .dm), (3, .var 4 [.d (.bool v2)]), (2, .var 3 [.d (I v1)]), (1, .var 26 [.d (.sl 1 (List.map e3 v))]), (0, .var 78 (catV (cv25 b_HairBook) [.fmp (List.map m84_35 mf)]))], 9, Fr.emp, [], 8⟩ (by kernel_rfl) ?_
  refine RunC.fin ⟨[(4, .ptr 1 0), (5, .ptr 2 0), (6, .ptr 3 0), (7, .d (.sl 1 (List.map e3 a))), (9, .d (I r0_3))], [(7, .dm), (3, .var 4 [.d (.bool v2)]), (2, .var 3 [.d (I v1)]), (1, .var 26 [.d (.sl 1 (List.map e3 v))]), (0, .var 78 (catV (cv25 b_HairBook) [.fmp (List.map m84_35 mf)]))], 9, Fr.emp, [], 8⟩ (by kernel_rfl) (by kernel_rfl) ?_
  refine hQ_6 _ ?_
  refine AW.sa (fokR l_5) [23] ⟨[(4, .ptr 1 0), (5, .ptr 2 0), (6, .ptr 3 0), (7, .d (.sl 1 (List.map e3 a))), (9, .d (I r0_3)), (27, .d (.bool ((!v2) || (decide (r0_3 < v1)))))], [(7, .dm), (3, .var 4 [.d (.bool v2)]), (2, .var 3 [.d (I v1)]), (1, .var 26 [.d (.sl 1 (List.map e3 v))]), (0, .var 78 (catV (cv25 b_HairBook) [.fmp (List.map m84_35 mf)]))], 9, Fr.emp, [], 8⟩ (by kernel_rfl) ?_
  refine AW.cond rfl (fun hb_9 => ?_) (fun hb_9 => ?_)
  ·have h := ifT hb_9 h
   refine AW.ra (fokR l_5) [] ⟨[], [(3, .var 4 [.d (.bool true)]), (2, .var 3 [.d (I r0_3)]), (1, .var 26 [.d (.sl 1 (List.map e3 a))]), (7, .dm), (0, .var 78 (catV (cv25 b_HairBook) [.fmp (List.map m84_35 mf)]))], 9, Fr.emp, [], 8⟩ (by kernel_rfl) ?_
   obtain rfl := Option.some.inj h
   exact ⟨⟨[], [(7, .dm), (3, .var 4 [.d (.bool true)]), (2, .var 3 [.d (I r0_3)]), (1, .var 26 [.d (.sl 1 (List.map e3 a))]), (0, .var 78 (catV (cv25 b_HairBook) [.fmp (List.map m84_35 mf)]))], 8, Fr.emp, [], 8⟩, Can.kp (by kernel_rfl), rdX trivial rfl (by kernel_rfl) (by kernel_rfl)⟩
  ·have h := ifF hb_9 h
   refine AW.skip ?_
   obtain rfl := Option.some.inj h
   exact ⟨⟨[], [(7, .dm), (3, .var 4 [.d (.bool v2)]), (2, .var 3 [.d (I v1)]), (1, .var 26 [.d (.sl 1 (List.map e3 v))]), (0, .var 78 (catV (cv25 b_HairBook) [.fmp (List.map m84_35 mf)]))], 8, Fr.emp, [], 8⟩, Can.kp (by kernel_rfl), rdX trivial rfl (by kernel_rfl) (by kernel_rfl)⟩
 ·rcases out_5 with ⟨v, v1, v2⟩ | _
  ·refine hK_1 _ ?_
   refine AW.sa fokW [] ⟨[(2, .d (.sl 1 (List.map e3 v))), (3, .d (.bool v2))], [(7, .dm)], 8, Fr.emp, [7], 0⟩ (by kernel_rfl) ?_
   obtain rfl := Option.some.inj h
   exact AW.ret (hR_0 _ (retX (.cons (.tmp rfl) (.cons (.tmp rfl) .nil)) (.refl _) rfl (by kernel_rfl) (by kernel_rfl)))
  ·cases h
def g26 (x : HairBook) : Option ((List Int) × Int) := (g17 x).bind fun r0_9 => bif (decide (r0_9 ≠ 0)) then (some ([], r0_9)) else ((g80 x).bind fun (r0_HairBook, mf) => (g81 r0_HairBook mf).bind fun (r0, r1) => bif (!r1) then (some ([], 4)) else ((slcL r0 0 (r0.length : Int)).bind fun l => some (l, 0)))
theorem k26 (x : HairBook) (r : (List Int) × Int) (h : g26 x = some r) : SCall Tryd.prog Gs 26 [.agg [.d (.sl 4 (List.map e58 x.Hanks)), .d (.sl 3 (List.map e69 x.Horses)), .d (I x.Dark), .d (I x.Near), .d (I x.Match)]] [] 0 Fr.emp (match r with | (r0_3, r1_3) => .tup [.d (.sl 1 (List.map e3 r0_3)), .d (I r1_3)]) [] 0 Fr.emp := by
 unfold g26 at h
 refine SCall.mkK Tryd.func26 c26 rfl rfl (by kernel_rfl) (fun Q_0 hR_0 hN_0 => ?_)
 refine AW.sa fokW [] ⟨[(1, .ptr 0 0)], [(0, .var 25 (cv25 x))], 1, Fr.emp, [], 0⟩ (by kernel_rfl) ?_
 refine AW.seqK (fun K_1 hK_1 => ?_)
 refine AW.srwK (fun Q_2 hQ_2 => ?_)
 refine RW.au fokW 1 [] ⟨[(1, .ptr 0 0), (7, .agg [.d (.sl 4 (List.map e58 x.Hanks)), .d (.sl 3 (List.map e69 x.Horses)), .d (I x.Dark), .d (I x.Near), .d (I x.Match)])], [(0, .var 25 (cv25 x))], 1, Fr.emp, [], 0⟩ (by kernel_rfl) ?_
 obtain ⟨r0_9, hx_3, h⟩ := bsome h
 refine RW.one fokW (r_call trivial rfl (k17 x _ hx_3) rfl rfl (r_end ?_))
 refine RW.au fokW 1 [] ⟨[(1, .ptr 0 0), (4, .d (I r0_9))], [(0, .var 25 (cv25 x))], 1, Fr.emp, [], 0⟩ (by kernel_rfl) ?_
 refine RW.nil ?_
 refine hQ_2 _ ?_
 refine AW.sa fokW [] ⟨[(1, .ptr 0 0), (4, .d (I r0_9)), (10, .d (.bool (decide (r0_9 ≠ 0))))], [(0, .var 25 (cv25 x))], 1, Fr.emp, [], 0⟩ (by kernel_rfl) ?_
 refine AW.cond rfl (fun hb_4 => ?_) (fun hb_4 => ?_)
 ·have h := ifT hb_4 h
  refine AW.sa fokW [] ⟨[(2, .d (.nilSl)), (3, .d (I r0_9))], [], 1, Fr.emp, [], 0⟩ (by kernel_rfl) ?_
  obtain rfl := Option.some.inj h
  exact AW.ret (hR_0 _ (retX (.cons (.tmp rfl) (.cons (.tmp rfl) .nil)) (Frz.tup_of ⟨.nil 1, .refl _, trivial⟩) rfl (by kernel_rfl) (by kernel_rfl)))
 ·have h := ifF hb_4 h
  refine AW.skip ?_
  refine hK_1 _ ?_
  refine AW.srwK (fun Q_5 hQ_5 => ?_)
  refine RW.au fokW 1 [] ⟨[(13, .agg [.d (.sl 4 (List.map e58 x.Hanks)), .d (.sl 3 (List.map e69 x.Horses)), .d (I x.Dark), .d (I x.Near), .d (I x.Match)])], [], 1, Fr.emp, [], 0⟩ (by kernel_rfl) ?_
  obtain ⟨⟨r0_HairBook, mf⟩, hx_6, h⟩ := bsome h
  refine RW.one fokW (r_call trivial rfl (k80 x _ hx_6) rfl rfl (r_end ?_))
  obtain ⟨⟨r0, r1⟩, hx_7, h⟩ := bsome h
  refine RW.one fokW (r_call trivial rfl (k81 r0_HairBook mf _ hx_7) rfl rfl (r_end ?_))
  refine RW.au fokW 5 [] ⟨[(5, .d (.sl 1 (List.map e3 r0))), (6, .d (.bool r1))], [], 1, Fr.emp, [], 0⟩ (by kernel_rfl) ?_
  refine RW.nil ?_
  refine hQ_5 _ ?_
  refine AW.seqK (fun K_8 hK_8 => ?_)
  refine AW.sa fokW [] ⟨[(5, .d (.sl 1 (List.map e3 r0))), (19, .d (.bool (!r1)))], [], 1, Fr.emp, [], 0⟩ (by kernel_rfl) ?_
  refine AW.cond rfl (fun hb_9 => ?_) (fun hb_9 => ?_)
  ·have h := ifT hb_9 h
   refine AW.sa fokW [] ⟨[(2, .d (.nilSl)), (3, .d (I 4))], [], 1, Fr.emp, [], 0⟩ (by kernel_rfl) ?_
   obtain rfl := Option.some.inj h
   exact AW.ret (hR_0 _ (retX (.cons (.tmp rfl) (.cons (.tmp rfl) .nil)) (Frz.tup_of ⟨.nil 1, .refl _, trivial⟩) rfl (by kernel_rfl) (by kernel_rfl)))
  ·have h := ifF hb_9 h
   refine AW.skip ?_
   refine hK_8 _ ?_
   refine AW.srwK (fun Q_10 hQ_10 => ?_)
   refine RW.au fokW 2 [] ⟨[(5, .d (.sl 1 (List.map e3 r0))), (20, .d (.sl 1 (List.map e3 r0))), (21, .d (.sl 1 (List.map e3 r0)))], [], 1, Fr.emp, [], 0⟩ (by kernel_rfl) ?_
   refine RW.one fokW (r_lenX trivial rfl lenm (r_end ?_))
   refine RW.au fokW 1 [] ⟨[(20, .d (.sl 1 (List.map e3 r0))), (22, .d (I (r0.length : Int))), (23, .d (.sl 1 (List.map e3 r0)))], [], 1, Fr.emp, [], 0⟩ (by kernel_rfl) ?_
   refine RW.one fokW (r_lenX trivial rfl lenm (r_end ?_))
   obtain ⟨l, hv_11, h⟩ := bsome h
   refine RW.one fokW (r_slN trivial rfl rfl rfl DSl.d (slcL_ok hv_11).2.1 (by rw [List.length_map]; exact (slcL_ok hv_11).2.2.1) rfl (slz hv_11 e3) (r_end ?_))
   refine RW.au fokW 2 [] ⟨[(2, .fsl 1 (List.map e3 l)), (3, .d (I 0))], [], 1, Fr.emp, [], 0⟩ (by kernel_rfl) ?_
   refine RW.nil ?_
   refine hQ_10 _ ?_
   obtain rfl := Option.some.inj h
   exact AW.ret (hR_0 _ (retX (.cons (.tmp rfl) (.cons (.tmp rfl) .nil)) (Frz.tup_of ⟨.fsl _ _, .refl _, trivial⟩) rfl (by kernel_rfl) (by kernel_rfl)))
def g28_4 (l : (List Int)) (m : (List Int)) : (Bool × Int) → Option (Ctl (Bool × Int) (Bool)) := fun  (is2, i) => (bif is2 then (some (decide (i < (l.length : Int)))) else (some false)).bind fun v => bif v then ((ixL l i).bind fun p => (ixL m i).bind fun p1 => some (.next ((decide (p = p1)), (wr (i + 1))))) else (some (.brk is2))
def g28 (l : (List Int)) (m : (List Int)) : Option Bool := ((whileC (g28_4 l m) 1000 ((decide ((l.length : Int) = (m.length : Int))), 0)).bind fun is1 => some is1).bind fun is => some is
theorem k28 (l : (List Int)) (m : (List Int)) (r : Bool) (h : g28 l m = some r) : SCall Tryd.prog Gs 28 [.d (.sl 1 (List.map e3 l)), .d (.sl 1 (List.map e3 m))] [] 0 Fr.emp (.d (.bool r)) [] 0 Fr.emp := by
 unfold g28 at h
 refine SCall.mkK Tryd.func28 c28 rfl rfl (by kernel_rfl) (fun Q_0 hR_0 hN_0 => ?_)
 refine AW.sa fokW [] ⟨[(0, .d (.sl 1 (List.map e3 l))), (1, .d (.sl 1 (List.map e3 m)))], [], 0, Fr.emp, [], 0⟩ (by kernel_rfl) ?_
 refine AW.srwK (fun Q_1 hQ_1 => ?_)
 refine RW.au fokW 1 [] ⟨[(0, .d (.sl 1 (List.map e3 l))), (1, .d (.sl 1 (List.map e3 m))), (7, .d (.sl 1 (List.map e3 l)))], [], 0, Fr.emp, [], 0⟩ (by kernel_rfl) ?_
 refine RW.one fokW (r_lenX trivial rfl lenm (r_end ?_))
 refine RW.au fokW 1 [] ⟨[(0, .d (.sl 1 (List.map e3 l))), (1, .d (.sl 1 (List.map e3 m))), (8, .d (I (l.length : Int))), (9, .d (.sl 1 (List.map e3 m)))], [], 0, Fr.emp, [], 0⟩ (by kernel_rfl) ?_
 refine RW.one fokW (r_lenX trivial rfl lenm (r_end ?_))
 refine RW.au fokW 2 [] ⟨[(0, .d (.sl 1 (List.map e3 l))), (1, .d (.sl 1 (List.map e3 m))), (5, .d (.bool (decide ((l.length : Int) = (m.length : Int)))))], [], 0, Fr.emp, [], 0⟩ (by kernel_rfl) ?_
 refine RW.nil ?_
 refine hQ_1 _ ?_
 obtain ⟨is, hx_2, h⟩ := bsome h
 refine AW.jnSK (fun (is : Bool) => ⟨[(5, .d (.bool is))], [], 0, Fr.emp, [], 0⟩) (c := is) (fun K_2 hK_2 => ?_) ?_
 ·have h := hx_2
  refine AW.sa fokW [] ⟨[(0, .d (.sl 1 (List.map e3 l))), (1, .d (.sl 1 (List.map e3 m))), (5, .d (.bool (decide ((l.length : Int) = (m.length : Int))))), (6, .d (I 0))], [], 0, Fr.emp, [], 0⟩ (by kernel_rfl) ?_
  obtain ⟨is1, hx_3, h⟩ := bsome h
  refine AW.jqSK (fun (is1 : Bool) => ⟨[(5, .d (.bool is1))], [], 0, Fr.emp, [], 0⟩) (c := is1) (fun K_3 hK_3 => ?_) ?_
  ·have h := hx_3
   refine AW.block ?_
   refine AW.whK (fun (⟨is2, i⟩ : Bool × Int) => ⟨[(0, .d (.sl 1 (List.map e3 l))), (1, .d (.sl 1 (List.map e3 m))), (5, .d (.bool is2)), (6, .d (I i))], [], 0, Fr.emp, [], 0⟩) (g28_4 l m) h (Can.kp (by kernel_rfl)) (fun s_4 c_4 h hb_4 K_4 hK_4 => ?_)
   obtain ⟨is2, i⟩ := s_4
   unfold g28_4 at h
   refine AW.seqK (fun K_5 hK_5 => ?_)
   refine AW.srwK (fun Q_6 hQ_6 => ?_)
   refine RW.au fokW 2 [] ⟨[(0, .d (.sl 1 (List.map e3 l))), (1, .d (.sl 1 (List.map e3 m))), (5, .d (.bool is2)), (6, .d (I i)), (13, .d (.bool is2))], [], 0, Fr.emp, [], 0⟩ (by kernel_rfl) ?_
   obtain ⟨v, hx_7, h⟩ := bsome h
   refine RW.cut fokW 5 (⟨[(0, .d (.sl 1 (List.map e3 l))), (1, .d (.sl 1 (List.map e3 m))), (5, .d (.bool is2)), (6, .d (I i)), (18, .d (.bool v))], [], 0, Fr.emp, [], 0⟩) ?_ ?_
   ·refine r_split 13 rfl (fun hb_8 => ?_) (fun hb_8 => ?_)
    ·have h := ifT hb_8 hx_7
     refine RunC.auX 2 ⟨[(0, .d (.sl 1 (List.map e3 l))), (1, .d (.sl 1 (List.map e3 m))), (5, .d (.bool is2)), (6, .d (I i)), (13, .d (.bool true)), (14, .d (I i)), (15, .d (.sl 1 (List.map e3 l)))], [], 0, Fr.emp, [], 0⟩ (by kernel_rfl) ?_
     refine r_lenX rfl rfl lenm ?_
     refine RunC.auX 2 ⟨[(0, .d (.sl 1 (List.map e3 l))), (1, .d (.sl 1 (List.map e3 m))), (5, .d (.bool is2)), (6, .d (I i)), (18, .d (.bool (decide (i < (l.length : Int)))))], [], 0, Fr.emp, [], 0⟩ (by kernel_rfl) ?_
     obtain rfl := Option.some.inj h
     refine RunC.finJ (Can.kp (by kernel_rfl))
    ·have h := ifF hb_8 hx_7
     refine RunC.auX 5 ⟨[(0, .d (.sl 1 (List.map e3 l))), (1, .d (.sl 1 (List.map e3 m))), (5, .d (.bool is2)), (6, .d (I i)), (18, .d (.bool false))], [], 0, Fr.emp, [], 0⟩ (by kernel_rfl) ?_
     obtain rfl := Option.some.inj h
     refine RunC.finJ (Can.kp (by kernel_rfl))
   ·refine RW.nil ?_
    refine hQ_6 _ ?_
    refine AW.cond rfl (fun hb_9 => ?_) (fun hb_9 => ?_)
    ·have h := ifT hb_9 h
     refine AW.skip ?_
     refine hK_5 _ ?_
     refine AW.seqK (fun K_10 hK_10 => ?_)
     refine AW.block ?_
     refine AW.drw fokW ?_
     refine RunC.auX 2 ⟨[(0, .d (.sl 1 (List.map e3 l))), (1, .d (.sl 1 (List.map e3 m))), (6, .d (I i)), (21, .d (.sl 1 (List.map e3 l))), (22, .d (I i))], [], 0, Fr.emp, [], 0⟩ (by kernel_rfl) ?_
     obtain ⟨p, hv_12, h⟩ := bsome h
     refine r_iaD trivial rfl rfl (ixL_ok hv_12).1 (row := e3 p) (mapget (ixL_ok hv_12).2) ?_
     refine RunC.auX 3 ⟨[(0, .d (.sl 1 (List.map e3 l))), (1, .d (.sl 1 (List.map e3 m))), (6, .d (I i)), (24, .d (I p)), (25, .d (.sl 1 (List.map e3 m))), (26, .d (I i))], [], 0, Fr.emp, [], 0⟩ (by kernel_rfl) ?_
     obtain ⟨p1, hv_13, h⟩ := bsome h
     refine r_iaD trivial rfl rfl (ixL_ok hv_13).1 (row := e3 p1) (mapget (ixL_ok hv_13).2) ?_
     refine RunC.auX 3 ⟨[(0, .d (.sl 1 (List.map e3 l))), (1, .d (.sl 1 (List.map e3 m))), (5, .d (.bool (decide (p = p1)))), (6, .d (I i))], [], 0, Fr.emp, [], 0⟩ (by kernel_rfl) ?_
     refine RunC.fin ⟨[(0, .d (.sl 1 (List.map e3 l))), (1, .d (.sl 1 (List.map e3 m))), (5, .d (.bool (decide (p = p1)))), (6, .d (I i))], [], 0, Fr.emp, [], 0⟩ (by kernel_rfl) (by kernel_rfl) ?_
     refine hK_10 _ ?_
     refine AW.ra fokW [] ⟨[(0, .d (.sl 1 (List.map e3 l))), (1, .d (.sl 1 (List.map e3 m))), (5, .d (.bool (decide (p = p1)))), (6, .d (I (wr (i + 1))))], [], 0, Fr.emp, [], 0⟩ (by kernel_rfl) ?_
     obtain rfl := Option.some.inj h
     exact hK_4 _ _ rfl (Can.kp (by kernel_rfl))
    ·have h := ifF hb_9 h
     refine AW.exit ?_
     obtain rfl := Option.some.inj h
     obtain rfl := hb_4 _ rfl
     exact hK_3 _ (Can.kp (by kernel_rfl))
  ·obtain rfl := Option.some.inj h
   exact hK_2 _ (Can.kp (by kernel_rfl))
 ·refine AW.sa fokW [] ⟨[(4, .d (.bool is))], [], 0, Fr.emp, [], 0⟩ (by kernel_rfl) ?_
  obtain rfl := Option.some.inj h
  exact AW.ret (hR_0 _ (retX (.cons (.tmp rfl) .nil) (.refl _) rfl (by kernel_rfl) (by kernel_rfl)))
def g54  : Option HairBook := (g79).bind fun r0_1 => (slcL r0_1.Hanks 0 2).bind fun l => some (HairBook.mk l r0_1.Horses r0_1.Dark r0_1.Near r0_1.Match)
theorem k54  (r : HairBook) (h : g54 = some r) : SCall Tryd.prog Gs 54 [] [] 0 Fr.emp (.agg [.d (.sl 4 (List.map e58 r.Hanks)), .d (.sl 3 (List.map e69 r.Horses)), .d (I r.Dark), .d (I r.Near), .d (I r.Match)]) [] 0 Fr.emp := by
 unfold g54 at h
 refine SCall.mkK Tryd.func54 c54 rfl rfl (by kernel_rfl) (fun Q_0 hR_0 hN_0 => ?_)
 refine AW.sa fokW [] ⟨[(0, .ptr 0 0)], [(0, .var 25 [.d (.nilSl), .d (.nilSl), .d (I 0), .d (I 0), .d (I 0)])], 1, Fr.emp, [], 0⟩ (by kernel_rfl) ?_
 refine AW.srwK (fun Q_1 hQ_1 => ?_)
 obtain ⟨r0_1, hx_2, h⟩ := bsome h
 refine RW.one fokW (r_call trivial rfl (k79 _ hx_2) rfl rfl (r_end ?_))
 refine RW.au fokW 2 [] ⟨[(0, .ptr 0 0), (1, .ptr 1 0)], [(1, .var 25 (cv25 r0_1)), (0, .var 25 [.d (.nilSl), .d (.nilSl), .d (I 0), .d (I 0), .d (I 0)])], 2, Fr.emp, [], 0⟩ (by kernel_rfl) ?_
 refine RW.nil ?_
 refine hQ_1 _ ?_
 refine AW.srwK (fun Q_3 hQ_3 => ?_)
 refine RW.au fokW 2 [] ⟨[(0, .ptr 0 0), (1, .ptr 1 0), (4, .d (.sl 4 (List.map e58 r0_1.Hanks)))], [(1, .var 25 (cv25 r0_1)), (0, .var 25 [.d (.nilSl), .d (.nilSl), .d (I 0), .d (I 0), .d (I 0)])], 2, Fr.emp, [], 0⟩ (by kernel_rfl) ?_
 obtain ⟨l, hv_4, h⟩ := bsome h
 refine RW.one fokW (r_slH trivial rfl rfl DSl.d (slcL_ok hv_4).2.1 (by rw [List.length_map]; exact (slcL_ok hv_4).2.2.1) (slz hv_4 e58) (r_end ?_))
 refine RW.au fokW 2 [] ⟨[(0, .ptr 0 0), (1, .ptr 1 0)], [(1, .var 25 [.d (.sl 4 (List.map e58 l)), .d (.sl 3 (List.map e69 r0_1.Horses)), .d (I r0_1.Dark), .d (I r0_1.Near), .d (I r0_1.Match)]), (0, .var 25 [.d (.nilSl), .d (.nilSl), .d (I 0), .d (I 0), .d (I 0)])], 2, Fr.emp, [], 0⟩ (by kernel_rfl) ?_
 refine RW.nil ?_
 refine hQ_3 _ ?_
 refine AW.sa fokW [] ⟨[(0, .ptr 0 0)], [(0, .var 25 [.d (.sl 4 (List.map e58 l)), .d (.sl 3 (List.map e69 r0_1.Horses)), .d (I r0_1.Dark), .d (I r0_1.Near), .d (I r0_1.Match)])], 2, Fr.emp, [], 0⟩ (by kernel_rfl) ?_
 obtain rfl := Option.some.inj h
 exact AW.ret (hR_0 _ (retX (.cons (.agg rfl rfl (Nat.le_of_ble_eq_true rfl)) .nil) (.refl _) rfl (by kernel_rfl) (by kernel_rfl)))
def g84_r5 : ((List Int) × (Nat → Int)) → (Unit) → Option (Ctl (Unit) (Unit)) := fun (a, a1) _ => some (.brk ())
def g84 (b_HairBook : HairBook) (mf : List (Hair_dye × Span)) : Option Bool := (g76).bind fun _ => (g88 b_HairBook mf b_HairBook mf).bind fun (o0_HairBook, mf1) => (g111 (fun a a1 s => rndC g84_r5 (a, a1) s) o0_HairBook mf1 b_HairBook mf (.next ())).bind fun out_5 => match out_5 with | .next _ => some false | .brk _ => some true
theorem k84 (b_HairBook : HairBook) (mf : List (Hair_dye × Span)) (r : Bool) (h : g84 b_HairBook mf = some r) : SCall Tryd.prog Gs 84 [.agg [.d (.sl 4 (List.map e58 b_HairBook.Hanks)), .d (.sl 3 (List.map e69 b_HairBook.Horses)), .d (I b_HairBook.Dark), .d (I b_HairBook.Near), .d (I b_HairBook.Match), .fmp (List.map m84_35 mf)]] [] 0 Fr.emp (.d (.bool r)) [] 0 Fr.emp := by
 unfold g84 at h
 refine SCall.mkK Tryd.func84 c84 rfl rfl (by kernel_rfl) (fun Q_0 hR_0 hN_0 => ?_)
 refine AW.sa fokW [] ⟨[(1, .ptr 0 0), (2, .ptr 1 0)], [(1, .var 4 [.d (.bool false)]), (0, .var 78 (catV (cv25 b_HairBook) [.fmp (List.map m84_35 mf)]))], 2, Fr.emp, [], 0⟩ (by kernel_rfl) ?_
 refine AW.seqK (fun K_1 hK_1 => ?_)
 refine AW.sdrwK fokW (fun Q_2 hQ_2 => ?_)
 refine RunC.auX 1 ⟨[(1, .ptr 0 0), (2, .ptr 1 0), (3, .agg [.d (.sl 4 (List.map e58 b_HairBook.Hanks)), .d (.sl 3 (List.map e69 b_HairBook.Horses)), .d (I b_HairBook.Dark), .d (I b_HairBook.Near), .d (I b_HairBook.Match), .fmp (List.map m84_35 mf)])], [(1, .var 4 [.d (.bool false)]), (0, .var 78 (catV (cv25 b_HairBook) [.fmp (List.map m84_35 mf)]))], 2, Fr.emp, [], 0⟩ (by kernel_rfl) ?_
 obtain ⟨⟨⟩, hx_3, h⟩ := bsome h
 refine r_call trivial rfl (k76 _ hx_3) rfl rfl ?_
 refine RunC.auX 2 ⟨[(2, .ptr 1 0), (3, .agg [.d (.sl 4 (List.map e58 b_HairBook.Hanks)), .d (.sl 3 (List.map e69 b_HairBook.Horses)), .d (I b_HairBook.Dark), .d (I b_HairBook.Near), .d (I b_HairBook.Match), .fmp (List.map m84_35 mf)]), (4, .agg [.d (.fn 107)]), (6, .clo 89 [.agg [.d (.sl 4 (List.map e58 b_HairBook.Hanks)), .d (.sl 3 (List.map e69 b_HairBook.Horses)), .d (I b_HairBook.Dark), .d (I b_HairBook.Near), .d (I b_HairBook.Match), .fmp (List.map m84_35 mf)]] [])], [(1, .var 4 [.d (.bool false)]), (0, .var 78 (catV (cv25 b_HairBook) [.fmp (List.map m84_35 mf)]))], 2, Fr.emp, [], 0⟩ (by kernel_rfl) ?_
 obtain ⟨⟨o0_HairBook, mf1⟩, hx_4, h⟩ := bsome h
 refine r_callS (zr := []) [] trivial rfl (k88 b_HairBook mf b_HairBook mf _ hx_4) trivial rfl rfl ⟨.refl _, .refl _, .refl _, trivial⟩ rfl rfl rfl ?_
 refine RunC.fin ⟨[(2, .ptr 1 0), (7, .clo 111 [] [.ptr 2 0, .ptr 3 0, .ptr 4 0])], [(2, .var 78 (catV (cv25 o0_HairBook) [.fmp (List.map m84_35 mf1)])), (3, .var 99 [.d (.fn 107)]), (4, .var 65 [.clo 89 [.agg [.d (.sl 4 (List.map e58 b_HairBook.Hanks)), .d (.sl 3 (List.map e69 b_HairBook.Horses)), .d (I b_HairBook.Dark), .d (I b_HairBook.Near), .d (I b_HairBook.Match), .fmp (List.map m84_35 mf)]] []]), (1, .var 4 [.d (.bool false)])], 5, Fr.emp, [], 0⟩ (by kernel_rfl) (by kernel_rfl) ?_
 refine hQ_2 _ ?_
 refine AW.block ?_
 obtain ⟨out_5, hx_5, h⟩ := bsome h
 refine AW.rfX (fun (_ : Unit) => [(5, .dm), (1, .var 4 [.d (.bool false)])]) (fun (_ : Unit) => [(5, .dm), (1, .var 4 [.d (.bool true)])]) (fun _ => some .ret) g84_r5 (fun (⟨a, a1⟩ : (List Int) × (Nat → Int)) => [.d (.sl 1 (List.map e3 a)), .agg [.d (I (a1 0)), .d (I (a1 1)), .d (I (a1 2)), .d (I (a1 3)), .d (I (a1 4))]]) (s0 := ()) (out := out_5) [(2, .ptr 1 0)] [(1, .var 4 [.d (.bool false)])] [2, 3, 4] rfl (.clo _ _ _) (by kernel_rfl) (by kernel_rfl) (fun fr_ hY_5 => k111 fr_ _ (fun a a1 s s2 b h => hY_5 (a, a1) s s2 b h) o0_HairBook mf1 b_HairBook mf (.next ()) _ hx_5) (by kernel_rfl) ⟨rfl, rfl, rfl, trivial⟩ rfl ⟨rfl, rfl⟩ rfl rfl (fun _ => rfl) (fun _ => rfl) (fun a_5 s_5 c_5 h l_5 => ?_) (fun _ => rfl) ?_
 ·obtain ⟨a, a1⟩ := a_5
  unfold g84_r5 at h
  refine AW.skip ?_
  refine AW.block ?_
  refine AW.sa (fokR l_5) [] ⟨[(2, .ptr 1 0)], [(1, .var 4 [.d (.bool true)]), (5, .dm)], 6, Fr.emp, [], 6⟩ (by kernel_rfl) ?_
  refine AW.ret ?_
  obtain rfl := Option.some.inj h
  exact ⟨⟨[], [(5, .dm), (1, .var 4 [.d (.bool true)])], 6, Fr.emp, [], 6⟩, Can.kp (by kernel_rfl), rdX trivial rfl (by kernel_rfl) (by kernel_rfl)⟩
 ·rcases out_5 with _ | _
  ·refine hK_1 _ ?_
   refine AW.sa fokW [] ⟨[(2, .ptr 1 0)], [(1, .var 4 [.d (.bool false)]), (5, .dm)], 6, Fr.emp, [5], 0⟩ (by kernel_rfl) ?_
   obtain rfl := Option.some.inj h
   exact AW.ret (hR_0 _ (retX (.cons (.one rfl rfl rfl) .nil) (.refl _) rfl (by kernel_rfl) (by kernel_rfl)))
  ·obtain rfl := Option.some.inj h
   exact hR_0 _ (retX (.cons (.one rfl rfl rfl) .nil) (.refl _) rfl (by kernel_rfl) (by kernel_rfl))
def g116 (x : Int) : Option Bool := some (decide (x ≠ x))
theorem k116 (x : Int) (r : Bool) (h : g116 x = some r) : SCall Tryd.prog Gs 116 [.d (I x)] [] 0 Fr.emp (.d (.bool r)) [] 0 Fr.emp := by
 unfold g116 at h
 refine SCall.mkK Tryd.func116 c116 rfl rfl (by kernel_rfl) (fun Q_0 hR_0 hN_0 => ?_)
 refine AW.sa fokW [] ⟨[(0, .d (I x))], [], 0, Fr.emp, [], 0⟩ (by kernel_rfl) ?_
 refine AW.sa fokW [] ⟨[(2, .d (.bool (decide (x ≠ x))))], [], 0, Fr.emp, [], 0⟩ (by kernel_rfl) ?_
 obtain rfl := Option.some.inj h
 exact AW.ret (hR_0 _ (retX (.cons (.tmp rfl) .nil) (.refl _) rfl (by kernel_rfl) (by kernel_rfl)))
def g110 (x : Int) (y : Int) : Option Int := (g116 x).bind fun r0 => (g116 y).bind fun r0_1 => bif r0 then (bif r0_1 then (some 0) else (some (-1))) else (bif r0_1 then (some 1) else (bif (decide (x < y)) then (some (-1)) else (bif (decide (y < x)) then (some 1) else (some 0))))
theorem k110 (x : Int) (y : Int) (r : Int) (h : g110 x y = some r) : SCall Tryd.prog Gs 110 [.d (I x), .d (I y)] [] 0 Fr.emp (.d (I r)) [] 0 Fr.emp := by
 unfold g110 at h
 refine SCall.mkK Tryd.func110 c110 rfl rfl (by kernel_rfl) (fun Q_0 hR_0 hN_0 => ?_)
 refine AW.sa fokW [] ⟨[(0, .d (I x)), (1, .d (I y))], [], 0, Fr.emp, [], 0⟩ (by kernel_rfl) ?_
 refine AW.srwK (fun Q_1 hQ_1 => ?_)
 refine RW.au fokW 1 [] ⟨[(0, .d (I x)), (1, .d (I y)), (7, .d (I x))], [], 0, Fr.emp, [], 0⟩ (by kernel_rfl) ?_
 obtain ⟨r0, hx_2, h⟩ := bsome h
 refine RW.one fokW (r_call trivial rfl (k116 x _ hx_2) rfl rfl (r_end ?_))
 refine RW.au fokW 1 [] ⟨[(0, .d (I x)), (1, .d (I y)), (5, .d (.bool r0))], [], 0, Fr.emp, [], 0⟩ (by kernel_rfl) ?_
 refine RW.nil ?_
 refine hQ_1 _ ?_
 refine AW.srwK (fun Q_3 hQ_3 => ?_)
 refine RW.au fokW 1 [] ⟨[(0, .d (I x)), (1, .d (I y)), (5, .d (.bool r0)), (9, .d (I y))], [], 0, Fr.emp, [], 0⟩ (by kernel_rfl) ?_
 obtain ⟨r0_1, hx_4, h⟩ := bsome h
 refine RW.one fokW (r_call trivial rfl (k116 y _ hx_4) rfl rfl (r_end ?_))
 refine RW.au fokW 1 [] ⟨[(0, .d (I x)), (1, .d (I y)), (5, .d (.bool r0)), (6, .d (.bool r0_1))], [], 0, Fr.emp, [], 0⟩ (by kernel_rfl) ?_
 refine RW.nil ?_
 refine hQ_3 _ ?_
 refine AW.seqK (fun K_5 hK_5 => ?_)
 refine AW.sa fokW [] ⟨[(0, .d (I x)), (1, .d (I y)), (6, .d (.bool r0_1)), (11, .d (.bool r0))], [], 0, Fr.emp, [], 0⟩ (by kernel_rfl) ?_
 refine AW.cond rfl (fun hb_6 => ?_) (fun hb_6 => ?_)
 ·have h := ifT hb_6 h
  refine AW.seqK (fun K_7 hK_7 => ?_)
  refine AW.sa fokW [] ⟨[(12, .d (.bool r0_1))], [], 0, Fr.emp, [], 0⟩ (by kernel_rfl) ?_
  refine AW.cond rfl (fun hb_8 => ?_) (fun hb_8 => ?_)
  ·have h := ifT hb_8 h
   refine AW.sa fokW [] ⟨[(4, .d (I 0))], [], 0, Fr.emp, [], 0⟩ (by kernel_rfl) ?_
   obtain rfl := Option.some.inj h
   exact AW.ret (hR_0 _ (retX (.cons (.tmp rfl) .nil) (.refl _) rfl (by kernel_rfl) (by kernel_rfl)))
  ·have h := ifF hb_8 h
   refine AW.skip ?_
   refine hK_7 _ ?_
   refine AW.sa fokW [] ⟨[(4, .d (I (-1)))], [], 0, Fr.emp, [], 0⟩ (by kernel_rfl) ?_
   obtain rfl := Option.some.inj h
   exact AW.ret (hR_0 _ (retX (.cons (.tmp rfl) .nil) (.refl _) rfl (by kernel_rfl) (by kernel_rfl)))
 ·have h := ifF hb_6 h
  refine AW.skip ?_
  refine hK_5 _ ?_
  refine AW.seqK (fun K_9 hK_9 => ?_)
  refine AW.sa fokW [] ⟨[(0, .d (I x)), (1, .d (I y)), (13, .d (.bool r0_1))], [], 0, Fr.emp, [], 0⟩ (by kernel_rfl) ?_
  refine AW.cond rfl (fun hb_10 => ?_) (fun hb_10 => ?_)
  ·have h := ifT hb_10 h
   refine AW.sa fokW [] ⟨[(4, .d (I 1))], [], 0, Fr.emp, [], 0⟩ (by kernel_rfl) ?_
   obtain rfl := Option.some.inj h
   exact AW.ret (hR_0 _ (retX (.cons (.tmp rfl) .nil) (.refl _) rfl (by kernel_rfl) (by kernel_rfl)))
  ·have h := ifF hb_10 h
   refine AW.skip ?_
   refine hK_9 _ ?_
   refine AW.seqK (fun K_11 hK_11 => ?_)
   refine AW.sa fokW [] ⟨[(0, .d (I x)), (1, .d (I y)), (16, .d (.bool (decide (x < y))))], [], 0, Fr.emp, [], 0⟩ (by kernel_rfl) ?_
   refine AW.cond rfl (fun hb_12 => ?_) (fun hb_12 => ?_)
   ·have h := ifT hb_12 h
    refine AW.sa fokW [] ⟨[(4, .d (I (-1)))], [], 0, Fr.emp, [], 0⟩ (by kernel_rfl) ?_
    obtain rfl := Option.some.inj h
    exact AW.ret (hR_0 _ (retX (.cons (.tmp rfl) .nil) (.refl _) rfl (by kernel_rfl) (by kernel_rfl)))
   ·have h := ifF hb_12 h
    refine AW.skip ?_
    refine hK_11 _ ?_
    refine AW.seqK (fun K_13 hK_13 => ?_)
    refine AW.sa fokW [] ⟨[(19, .d (.bool (decide (y < x))))], [], 0, Fr.emp, [], 0⟩ (by kernel_rfl) ?_
    refine AW.cond rfl (fun hb_14 => ?_) (fun hb_14 => ?_)
    ·have h := ifT hb_14 h
     refine AW.sa fokW [] ⟨[(4, .d (I 1))], [], 0, Fr.emp, [], 0⟩ (by kernel_rfl) ?_
     obtain rfl := Option.some.inj h
     exact AW.ret (hR_0 _ (retX (.cons (.tmp rfl) .nil) (.refl _) rfl (by kernel_rfl) (by kernel_rfl)))
    ·have h := ifF hb_14 h
     refine AW.skip ?_
     refine hK_13 _ ?_
     refine AW.sa fokW [] ⟨[(4, .d (I 0))], [], 0, Fr.emp, [], 0⟩ (by kernel_rfl) ?_
     obtain rfl := Option.some.inj h
     exact AW.ret (hR_0 _ (retX (.cons (.tmp rfl) .nil) (.refl _) rfl (by kernel_rfl) (by kernel_rfl)))
def g83_3 (s2 : (List Int)) : Int → Int → Unit → Option (Ctl (Unit) (Int)) := fun v p _ => bif (decide ((s2.length : Int) ≤ v)) then (some (.brk 1)) else ((ixL s2 v).bind fun p1 => (g110 p p1).bind fun r0_7 => bif (decide (r0_7 ≠ 0)) then (some (.brk r0_7)) else (some (.next ())))
def g83 (s1 : (List Int)) (s2 : (List Int)) : Option Int := bindC (eachC (g83_3 s2) s1 0 ()) fun _ => bif (decide ((s1.length : Int) < (s2.length : Int))) then (some (-1)) else (some 0)
theorem k83 (s1 : (List Int)) (s2 : (List Int)) (r : Int) (h : g83 s1 s2 = some r) : SCall Tryd.prog Gs 83 [.d (.sl 1 (List.map e3 s1)), .d (.sl 1 (List.map e3 s2))] [] 0 Fr.emp (.d (I r)) [] 0 Fr.emp := by
 unfold g83 at h
 refine SCall.mkK Tryd.func83 c83 rfl rfl (by kernel_rfl) (fun Q_0 hR_0 hN_0 => ?_)
 refine AW.sa fokW [] ⟨[(0, .d (.sl 1 (List.map e3 s1))), (1, .d (.sl 1 (List.map e3 s2)))], [], 0, Fr.emp, [], 0⟩ (by kernel_rfl) ?_
 refine AW.seqK (fun K_1 hK_1 => ?_)
 refine AW.srwK (fun Q_2 hQ_2 => ?_)
 refine RW.au fokW 1 [] ⟨[(0, .d (.sl 1 (List.map e3 s1))), (1, .d (.sl 1 (List.map e3 s2))), (9, .d (.sl 1 (List.map e3 s1)))], [], 0, Fr.emp, [], 0⟩ (by kernel_rfl) ?_
 refine RW.one fokW (r_lenX trivial rfl lenm (r_end ?_))
 refine RW.au fokW 1 [] ⟨[(0, .d (.sl 1 (List.map e3 s1))), (1, .d (.sl 1 (List.map e3 s2))), (9, .d (.sl 1 (List.map e3 s1))), (10, .d (I (s1.length : Int))), (11, .d (I 0))], [], 0, Fr.emp, [], 0⟩ (by kernel_rfl) ?_
 refine RW.nil ?_
 refine hQ_2 _ ?_
 refine AW.block ?_
 refine AW.sln (t := 0) rfl (fun hN_3 => ?_)
 rw [List.length_map] at hN_3
 obtain ⟨out_3, hx_3, hk_3⟩ := bsomeC h
 refine AW.evCK (fun (v : Int) (_ : Unit) => ⟨[(0, .d (.sl 1 (List.map e3 s1))), (1, .d (.sl 1 (List.map e3 s2))), (9, .d (.sl 1 (List.map e3 s1))), (10, .d (I (s1.length : Int))), (11, .d (I v))], [], 0, Fr.emp, [], 0⟩) (g83_3 s2) hx_3 (Can.kp (by kernel_rfl)) (fun v p s_3 hi_3 hl_3 hp_3 c_3 h hb_3 K_3 hK_3 => ?_) (fun v s_3 hi_3 hl_3 hout => ?_)
 ·unfold g83_3 at h
  refine AW.sa fokW [] ⟨[(0, .d (.sl 1 (List.map e3 s1))), (1, .d (.sl 1 (List.map e3 s2))), (9, .d (.sl 1 (List.map e3 s1))), (10, .d (I (s1.length : Int))), (11, .d (I v)), (12, .d (.bool (decide (v < (s1.length : Int)))))], [], 0, Fr.emp, [], 0⟩ (by kernel_rfl) ?_
  refine AW.seqK (fun K_4 hK_4 => ?_)
  refine AW.cond rfl (fun hb_5 => ?_) (fun hb_5 => False.elim (by have := of_decide_eq_false hb_5; omega))
  refine AW.skip ?_
  refine hK_4 _ ?_
  refine AW.seqK (fun K_6 hK_6 => ?_)
  refine AW.block ?_
  refine AW.srwK (fun Q_7 hQ_7 => ?_)
  refine RW.au fokW 1 [] ⟨[(0, .d (.sl 1 (List.map e3 s1))), (1, .d (.sl 1 (List.map e3 s2))), (9, .d (.sl 1 (List.map e3 s1))), (10, .d (I (s1.length : Int))), (11, .d (I v)), (13, .d (I v))], [], 0, Fr.emp, [], 0⟩ (by kernel_rfl) ?_
  refine RW.one fokW (r_iaD trivial rfl rfl hi_3 (row := e3 p) (mapget hp_3) (r_end ?_))
  refine RW.au fokW 3 [] ⟨[(0, .d (.sl 1 (List.map e3 s1))), (1, .d (.sl 1 (List.map e3 s2))), (5, .d (I v)), (6, .d (I p)), (9, .d (.sl 1 (List.map e3 s1))), (10, .d (I (s1.length : Int))), (11, .d (I v))], [], 0, Fr.emp, [], 0⟩ (by kernel_rfl) ?_
  refine RW.nil ?_
  refine hQ_7 _ ?_
  refine AW.seqK (fun K_8 hK_8 => ?_)
  refine AW.srwK (fun Q_9 hQ_9 => ?_)
  refine RW.au fokW 2 [] ⟨[(0, .d (.sl 1 (List.map e3 s1))), (1, .d (.sl 1 (List.map e3 s2))), (5, .d (I v)), (6, .d (I p)), (9, .d (.sl 1 (List.map e3 s1))), (10, .d (I (s1.length : Int))), (11, .d (I v)), (16, .d (I v)), (17, .d (.sl 1 (List.map e3 s2)))], [], 0, Fr.emp, [], 0⟩ (by kernel_rfl) ?_
  refine RW.one fokW (r_lenX trivial rfl lenm (r_end ?_))
  refine RW.au fokW 1 [] ⟨[(0, .d (.sl 1 (List.map e3 s1))), (1, .d (.sl 1 (List.map e3 s2))), (5, .d (I v)), (6, .d (I p)), (9, .d (.sl 1 (List.map e3 s1))), (10, .d (I (s1.length : Int))), (11, .d (I v)), (19, .d (.bool (decide ((s2.length : Int) ≤ v))))], [], 0, Fr.emp, [], 0⟩ (by kernel_rfl) ?_
  refine RW.nil ?_
  refine hQ_9 _ ?_
  refine AW.cond rfl (fun hb_10 => ?_) (fun hb_10 => ?_)
  ·have h := ifT hb_10 h
   refine AW.sa fokW [] ⟨[(4, .d (I 1))], [], 0, Fr.emp, [], 0⟩ (by kernel_rfl) ?_
   obtain rfl := Option.some.inj h
   have e_1 := hb_3 _ rfl
   subst e_1
   obtain rfl := Aft.bk hk_3
   exact AW.ret (hR_0 _ (retX (.cons (.tmp rfl) .nil) (.refl _) rfl (by kernel_rfl) (by kernel_rfl)))
  ·have h := ifF hb_10 h
   refine AW.skip ?_
   refine hK_8 _ ?_
   refine AW.srwK (fun Q_11 hQ_11 => ?_)
   refine RW.au fokW 2 [] ⟨[(0, .d (.sl 1 (List.map e3 s1))), (1, .d (.sl 1 (List.map e3 s2))), (6, .d (I p)), (9, .d (.sl 1 (List.map e3 s1))), (10, .d (I (s1.length : Int))), (11, .d (I v)), (20, .d (.sl 1 (List.map e3 s2))), (21, .d (I v))], [], 0, Fr.emp, [], 0⟩ (by kernel_rfl) ?_
   obtain ⟨p1, hv_12, h⟩ := bsome h
   refine RW.one fokW (r_iaD trivial rfl rfl (ixL_ok hv_12).1 (row := e3 p1) (mapget (ixL_ok hv_12).2) (r_end ?_))
   refine RW.au fokW 2 [] ⟨[(0, .d (.sl 1 (List.map e3 s1))), (1, .d (.sl 1 (List.map e3 s2))), (6, .d (I p)), (7, .d (I p1)), (9, .d (.sl 1 (List.map e3 s1))), (10, .d (I (s1.length : Int))), (11, .d (I v))], [], 0, Fr.emp, [], 0⟩ (by kernel_rfl) ?_
   refine RW.nil ?_
   refine hQ_11 _ ?_
   refine AW.srwK (fun Q_13 hQ_13 => ?_)
   refine RW.au fokW 2 [] ⟨[(0, .d (.sl 1 (List.map e3 s1))), (1, .d (.sl 1 (List.map e3 s2))), (9, .d (.sl 1 (List.map e3 s1))), (10, .d (I (s1.length : Int))), (11, .d (I v)), (24, .d (I p)), (25, .d (I p1))], [], 0, Fr.emp, [], 0⟩ (by kernel_rfl) ?_
   obtain ⟨r0_7, hx_14, h⟩ := bsome h
   refine RW.one fokW (r_call trivial rfl (k110 p p1 _ hx_14) rfl rfl (r_end ?_))
   refine RW.au fokW 1 [] ⟨[(0, .d (.sl 1 (List.map e3 s1))), (1, .d (.sl 1 (List.map e3 s2))), (8, .d (I r0_7)), (9, .d (.sl 1 (List.map e3 s1))), (10, .d (I (s1.length : Int))), (11, .d (I v))], [], 0, Fr.emp, [], 0⟩ (by kernel_rfl) ?_
   refine RW.nil ?_
   refine hQ_13 _ ?_
   refine AW.sa fokW [] ⟨[(0, .d (.sl 1 (List.map e3 s1))), (1, .d (.sl 1 (List.map e3 s2))), (8, .d (I r0_7)), (9, .d (.sl 1 (List.map e3 s1))), (10, .d (I (s1.length : Int))), (11, .d (I v)), (28, .d (.bool (decide (r0_7 ≠ 0))))], [], 0, Fr.emp, [], 0⟩ (by kernel_rfl) ?_
   refine AW.cond rfl (fun hb_15 => ?_) (fun hb_15 => ?_)
   ·have h := ifT hb_15 h
    refine AW.sa fokW [] ⟨[(4, .d (I r0_7))], [], 0, Fr.emp, [], 0⟩ (by kernel_rfl) ?_
    obtain rfl := Option.some.inj h
    have e_1 := hb_3 _ rfl
    subst e_1
    obtain rfl := Aft.bk hk_3
    exact AW.ret (hR_0 _ (retX (.cons (.tmp rfl) .nil) (.refl _) rfl (by kernel_rfl) (by kernel_rfl)))
   ·have h := ifF hb_15 h
    refine AW.skip ?_
    refine hK_6 _ ?_
    refine AW.ra fokW [] ⟨[(0, .d (.sl 1 (List.map e3 s1))), (1, .d (.sl 1 (List.map e3 s2))), (9, .d (.sl 1 (List.map e3 s1))), (10, .d (I (s1.length : Int))), (11, .d (I (wr (v + 1))))], [], 0, Fr.emp, [], 0⟩ (by kernel_rfl) ?_
    obtain rfl := Option.some.inj h
    have ew : wr (v + 1) = v + 1 := inext (N := (s1.length : Int)) (by omega) (by omega) (by omega)
    rw [ew]
    exact hK_3 _ _ rfl (Can.kp (by kernel_rfl))
 ·subst hout
  have h := Aft.nx hk_3
  refine AW.sa fokW [] ⟨[(0, .d (.sl 1 (List.map e3 s1))), (1, .d (.sl 1 (List.map e3 s2))), (9, .d (.sl 1 (List.map e3 s1))), (10, .d (I (s1.length : Int))), (11, .d (I v)), (12, .d (.bool (decide (v < (s1.length : Int)))))], [], 0, Fr.emp, [], 0⟩ (by kernel_rfl) ?_
  refine AW.seqK (fun K_16 hK_16 => ?_)
  refine AW.cond rfl (fun hb_17 => False.elim (by have := of_decide_eq_true hb_17; omega)) (fun hb_17 => ?_)
  refine AW.exit ?_
  refine hK_1 _ ?_
  refine AW.seqK (fun K_18 hK_18 => ?_)
  refine AW.srwK (fun Q_19 hQ_19 => ?_)
  refine RW.au fokW 1 [] ⟨[(1, .d (.sl 1 (List.map e3 s2))), (31, .d (.sl 1 (List.map e3 s1)))], [], 0, Fr.emp, [], 0⟩ (by kernel_rfl) ?_
  refine RW.one fokW (r_lenX trivial rfl lenm (r_end ?_))
  refine RW.au fokW 1 [] ⟨[(32, .d (I (s1.length : Int))), (33, .d (.sl 1 (List.map e3 s2)))], [], 0, Fr.emp, [], 0⟩ (by kernel_rfl) ?_
  refine RW.one fokW (r_lenX trivial rfl lenm (r_end ?_))
  refine RW.au fokW 1 [] ⟨[(35, .d (.bool (decide ((s1.length : Int) < (s2.length : Int)))))], [], 0, Fr.emp, [], 0⟩ (by kernel_rfl) ?_
  refine RW.nil ?_
  refine hQ_19 _ ?_
  refine AW.cond rfl (fun hb_20 => ?_) (fun hb_20 => ?_)
  ·have h := ifT hb_20 h
   refine AW.sa fokW [] ⟨[(4, .d (I (-1)))], [], 0, Fr.emp, [], 0⟩ (by kernel_rfl) ?_
   obtain rfl := Option.some.inj h
   exact AW.ret (hR_0 _ (retX (.cons (.tmp rfl) .nil) (.refl _) rfl (by kernel_rfl) (by kernel_rfl)))
  ·have h := ifF hb_20 h
   refine AW.skip ?_
   refine hK_18 _ ?_
   refine AW.sa fokW [] ⟨[(4, .d (I 0))], [], 0, Fr.emp, [], 0⟩ (by kernel_rfl) ?_
   obtain rfl := Option.some.inj h
   exact AW.ret (hR_0 _ (retX (.cons (.tmp rfl) .nil) (.refl _) rfl (by kernel_rfl) (by kernel_rfl)))
def g29_14 (v1 : Int) : Int → HairHorse → ((List Int) × (List HairHorse)) → Option ((List Int) × (List HairHorse)) := fun v2 p (l, l1) => (must (decide (0 ≤ v2))).bind fun _ => bif (decide ((bAnd (shr64 v1 v2) 1) = 1)) then ((appL 8 l [v2]).bind fun l2 => some (l2, l1)) else ((appL 24 l1 [p]).bind fun l3 => some (l, l3))
def g29_8 (x : HairBook) : Int → ((List Int) × Bool) → Option ((List Int) × Bool) := fun v1 (best1, found1) => (eachS (g29_14 v1) x.Horses 0 (([], []) : (List Int) × (List HairHorse))).bind fun (l, l1) => (bif found1 then (bif (decide ((best1.length : Int) < (l.length : Int))) then (some true) else (bif (decide ((l.length : Int) = (best1.length : Int))) then ((g83 l best1).bind fun r0_3 => some (decide (0 ≤ r0_3))) else (some false))) else (some false)).bind fun v3 => bif v3 then (some (best1, found1)) else ((g80 (HairBook.mk x.Hanks l1 x.Dark x.Near x.Match)).bind fun (r0_HairBook, mf) => (g84 r0_HairBook mf).bind fun r0_1 => bif r0_1 then (some (l, true)) else (some (best1, found1)))
def g29 (x : HairBook) : Option ((List Int) × Int) := (g17 x).bind fun r0_9 => bif (decide (r0_9 ≠ 0)) then (some ([], r0_9)) else ((must (decide (0 ≤ (x.Horses.length : Int)))).bind fun _ => (must (decide ((shl64 1 (x.Horses.length : Int)) ≤ 9223372036854775807))).bind fun _ => (forS (g29_8 x) ((((shl64 1 (x.Horses.length : Int)) : Int) - 0).toNat) 0 (([], false) : (List Int) × Bool)).bind fun (best1, found1) => (slcL best1 0 (best1.length : Int)).bind fun l4 => some (l4, 0))
theorem k29 (x : HairBook) (r : (List Int) × Int) (h : g29 x = some r) : SCall Tryd.prog Gs 29 [.agg [.d (.sl 4 (List.map e58 x.Hanks)), .d (.sl 3 (List.map e69 x.Horses)), .d (I x.Dark), .d (I x.Near), .d (I x.Match)]] [] 0 Fr.emp (match r with | (r0_2, r1_1) => .tup [.d (.sl 1 (List.map e3 r0_2)), .d (I r1_1)]) [] 0 Fr.emp := by
 unfold g29 at h
 refine SCall.mkK Tryd.func29 c29 rfl rfl (by kernel_rfl) (fun Q_0 hR_0 hN_0 => ?_)
 refine AW.sa fokW [] ⟨[(1, .ptr 0 0)], [(0, .var 25 (cv25 x))], 1, Fr.emp, [], 0⟩ (by kernel_rfl) ?_
 refine AW.seqK (fun K_1 hK_1 => ?_)
 refine AW.srwK (fun Q_2 hQ_2 => ?_)
 refine RW.au fokW 1 [] ⟨[(1, .ptr 0 0), (12, .agg [.d (.sl 4 (List.map e58 x.Hanks)), .d (.sl 3 (List.map e69 x.Horses)), .d (I x.Dark), .d (I x.Near), .d (I x.Match)])], [(0, .var 25 (cv25 x))], 1, Fr.emp, [], 0⟩ (by kernel_rfl) ?_
 obtain ⟨r0_9, hx_3, h⟩ := bsome h
 refine RW.one fokW (r_call trivial rfl (k17 x _ hx_3) rfl rfl (r_end ?_))
 refine RW.au fokW 1 [] ⟨[(1, .ptr 0 0), (4, .d (I r0_9))], [(0, .var 25 (cv25 x))], 1, Fr.emp, [], 0⟩ (by kernel_rfl) ?_
 refine RW.nil ?_
 refine hQ_2 _ ?_
 refine AW.sa fokW [] ⟨[(1, .ptr 0 0), (4, .d (I r0_9)), (15, .d (.bool (decide (r0_9 ≠ 0))))], [(0, .var 25 (cv25 x))], 1, Fr.emp, [], 0⟩ (by kernel_rfl) ?_
 refine AW.cond rfl (fun hb_4 => ?_) (fun hb_4 => ?_)
 ·have h := ifT hb_4 h
  refine AW.sa fokW [] ⟨[(2, .d (.nilSl)), (3, .d (I r0_9))], [], 1, Fr.emp, [], 0⟩ (by kernel_rfl) ?_
  obtain rfl := Option.some.inj h
  exact AW.ret (hR_0 _ (retX (.cons (.tmp rfl) (.cons (.tmp rfl) .nil)) (Frz.tup_of ⟨.nil 1, .refl _, trivial⟩) rfl (by kernel_rfl) (by kernel_rfl)))
 ·have h := ifF hb_4 h
  refine AW.skip ?_
  refine hK_1 _ ?_
  refine AW.sa fokW [] ⟨[(1, .ptr 0 0), (5, .d (.nilSl))], [(0, .var 25 (cv25 x))], 1, Fr.emp, [], 0⟩ (by kernel_rfl) ?_
  refine AW.sa fokW [] ⟨[(1, .ptr 0 0), (5, .d (.nilSl)), (6, .d (.bool false))], [(0, .var 25 (cv25 x))], 1, Fr.emp, [], 0⟩ (by kernel_rfl) ?_
  refine AW.seqK (fun K_5 hK_5 => ?_)
  refine AW.srwK (fun Q_6 hQ_6 => ?_)
  refine RW.au fokW 2 [] ⟨[(1, .ptr 0 0), (5, .d (.nilSl)), (6, .d (.bool false)), (18, .d (.sl 3 (List.map e69 x.Horses)))], [(0, .var 25 (cv25 x))], 1, Fr.emp, [], 0⟩ (by kernel_rfl) ?_
  refine RW.one fokW (r_lenX trivial rfl lenm (r_end ?_))
  obtain ⟨_, hv_7, h⟩ := bsome h
  refine RW.one fokW (r_sh trivial rfl rfl (shl64_ok (of_decide_eq_true (must_ok hv_7))) (r_end ?_))
  refine RW.au fokW 1 [] ⟨[(1, .ptr 0 0), (5, .d (.nilSl)), (6, .d (.bool false)), (20, .d (I (shl64 1 (x.Horses.length : Int)))), (21, .d (I 0))], [(0, .var 25 (cv25 x))], 1, Fr.emp, [], 0⟩ (by kernel_rfl) ?_
  refine RW.nil ?_
  refine hQ_6 _ ?_
  refine AW.block ?_
  obtain ⟨_, hN_8, h⟩ := bsome h
  have hN_8 := of_decide_eq_true (must_ok hN_8)
  obtain ⟨out_8, hx_8, h⟩ := bsome h
  refine AW.lpSK (fun (v1 : Int) (⟨best1, found1⟩ : (List Int) × Bool) => ⟨[(1, .ptr 0 0), (5, .d (.sl 1 (List.map e3 best1))), (6, .d (.bool found1)), (20, .d (I (shl64 1 (x.Horses.length : Int)))), (21, .d (I v1))], [(0, .var 25 (cv25 x))], 1, Fr.emp, [], 0⟩) (g29_8 x) ((shl64 1 (x.Horses.length : Int))) hx_8 (Can.trans (Can.wkE 5 1 rfl) (Can.kp (by kernel_rfl))) (fun v1 s_8 hi_8 hl_8 c_8 h K_8 hK_8 => ?_) (fun v1 s_8 hi_8 hl_8 hout => ?_)
  ·obtain ⟨best1, found1⟩ := s_8
   unfold g29_8 at h
   refine AW.sa fokW [] ⟨[(1, .ptr 0 0), (5, .d (.sl 1 (List.map e3 best1))), (6, .d (.bool found1)), (20, .d (I (shl64 1 (x.Horses.length : Int)))), (21, .d (I v1)), (22, .d (.bool (decide (v1 < (shl64 1 (x.Horses.length : Int))))))], [(0, .var 25 (cv25 x))], 1, Fr.emp, [], 0⟩ (by kernel_rfl) ?_
   refine AW.seqK (fun K_9 hK_9 => ?_)
   refine AW.cond rfl (fun hb_10 => ?_) (fun hb_10 => False.elim (by have := of_decide_eq_false hb_10; omega))
   refine AW.skip ?_
   refine hK_9 _ ?_
   refine AW.seqK (fun K_11 hK_11 => ?_)
   refine AW.block ?_
   refine AW.sa fokW [] ⟨[(1, .ptr 0 0), (5, .d (.sl 1 (List.map e3 best1))), (6, .d (.bool found1)), (7, .d (I v1)), (20, .d (I (shl64 1 (x.Horses.length : Int)))), (21, .d (I v1))], [(0, .var 25 (cv25 x))], 1, Fr.emp, [], 0⟩ (by kernel_rfl) ?_
   refine AW.sa fokW [] ⟨[(1, .ptr 0 0), (5, .d (.sl 1 (List.map e3 best1))), (6, .d (.bool found1)), (7, .d (I v1)), (8, .ptr 1 0), (20, .d (I (shl64 1 (x.Horses.length : Int)))), (21, .d (I v1))], [(1, .var 25 (cv25 x)), (0, .var 25 (cv25 x))], 2, Fr.emp, [], 0⟩ (by kernel_rfl) ?_
   refine AW.sa fokW [] ⟨[(1, .ptr 0 0), (5, .d (.sl 1 (List.map e3 best1))), (6, .d (.bool found1)), (7, .d (I v1)), (8, .ptr 1 0), (20, .d (I (shl64 1 (x.Horses.length : Int)))), (21, .d (I v1))], [(1, .var 25 [.d (.sl 4 (List.map e58 x.Hanks)), .d (.nilSl), .d (I x.Dark), .d (I x.Near), .d (I x.Match)]), (0, .var 25 (cv25 x))], 2, Fr.emp, [], 0⟩ (by kernel_rfl) ?_
   refine AW.sa fokW [] ⟨[(1, .ptr 0 0), (5, .d (.sl 1 (List.map e3 best1))), (6, .d (.bool found1)), (7, .d (I v1)), (8, .ptr 1 0), (9, .d (.nilSl)), (20, .d (I (shl64 1 (x.Horses.length : Int)))), (21, .d (I v1))], [(1, .var 25 [.d (.sl 4 (List.map e58 x.Hanks)), .d (.nilSl), .d (I x.Dark), .d (I x.Near), .d (I x.Match)]), (0, .var 25 (cv25 x))], 2, Fr.emp, [], 0⟩ (by kernel_rfl) ?_
   refine AW.seqK (fun K_12 hK_12 => ?_)
   refine AW.srwK (fun Q_13 hQ_13 => ?_)
   refine RW.au fokW 2 [] ⟨[(1, .ptr 0 0), (5, .d (.sl 1 (List.map e3 best1))), (6, .d (.bool found1)), (7, .d (I v1)), (8, .ptr 1 0), (9, .d (.nilSl)), (20, .d (I (shl64 1 (x.Horses.length : Int)))), (21, .d (I v1)), (27, .d (.sl 3 (List.map e69 x.Horses)))], [(1, .var 25 [.d (.sl 4 (List.map e58 x.Hanks)), .d (.nilSl), .d (I x.Dark), .d (I x.Near), .d (I x.Match)]), (0, .var 25 (cv25 x))], 2, Fr.emp, [], 0⟩ (by kernel_rfl) ?_
   refine RW.one fokW (r_lenX trivial rfl lenm (r_end ?_))
   refine RW.au fokW 1 [] ⟨[(1, .ptr 0 0), (5, .d (.sl 1 (List.map e3 best1))), (6, .d (.bool found1)), (7, .d (I v1)), (8, .ptr 1 0), (9, .d (.nilSl)), (20, .d (I (shl64 1 (x.Horses.length : Int)))), (21, .d (I v1)), (27, .d (.sl 3 (List.map e69 x.Horses))), (28, .d (I (x.Horses.length : Int))), (29, .d (I 0))], [(1, .var 25 [.d (.sl 4 (List.map e58 x.Hanks)), .d (.nilSl), .d (I x.Dark), .d (I x.Near), .d (I x.Match)]), (0, .var 25 (cv25 x))], 2, Fr.emp, [], 0⟩ (by kernel_rfl) ?_
   refine RW.nil ?_
   refine hQ_13 _ ?_
   refine AW.block ?_
   refine AW.sln (t := 27) rfl (fun hN_14 => ?_)
   rw [List.length_map] at hN_14
   obtain ⟨out_14, hx_14, h⟩ := bsome h
   refine AW.evSK (fun (v2 : Int) (⟨l, l1⟩ : (List Int) × (List HairHorse)) => ⟨[(1, .ptr 0 0), (5, .d (.sl 1 (List.map e3 best1))), (6, .d (.bool found1)), (7, .d (I v1)), (8, .ptr 1 0), (9, .own 2 (List.map e3 l).length), (20, .d (I (shl64 1 (x.Horses.length : Int)))), (21, .d (I v1)), (27, .d (.sl 3 (List.map e69 x.Horses))), (28, .d (I (x.Horses.length : Int))), (29, .d (I v2))], [(1, .var 25 [.d (.sl 4 (List.map e58 x.Hanks)), .own 3 (List.map e69 l1).length, .d (I x.Dark), .d (I x.Near), .d (I x.Match)]), (3, .row 69 3 (List.map e69 l1)), (2, .row 3 1 (List.map e3 l)), (0, .var 25 (cv25 x))], 4, Fr.emp, [], 0⟩) (g29_14 v1) hx_14 (Can.trans (Can.thawT 9 3 1 rfl rfl) (Can.trans (Can.thawH 1 1 25 69 3 rfl rfl rfl) (Can.kp (by kernel_rfl)))) (fun v2 p s_14 hi_14 hl_14 hp_14 c_14 h K_14 hK_14 => ?_) (fun v2 s_14 hi_14 hl_14 hout => ?_)
   ·obtain ⟨l, l1⟩ := s_14
    unfold g29_14 at h
    refine AW.sa fokW [] ⟨[(1, .ptr 0 0), (5, .d (.sl 1 (List.map e3 best1))), (6, .d (.bool found1)), (7, .d (I v1)), (8, .ptr 1 0), (9, .own 2 (List.map e3 l).length), (20, .d (I (shl64 1 (x.Horses.length : Int)))), (21, .d (I v1)), (27, .d (.sl 3 (List.map e69 x.Horses))), (28, .d (I (x.Horses.length : Int))), (29, .d (I v2)), (30, .d (.bool (decide (v2 < (x.Horses.length : Int)))))], [(1, .var 25 [.d (.sl 4 (List.map e58 x.Hanks)), .own 3 (List.map e69 l1).length, .d (I x.Dark), .d (I x.Near), .d (I x.Match)]), (3, .row 69 3 (List.map e69 l1)), (2, .row 3 1 (List.map e3 l)), (0, .var 25 (cv25 x))], 4, Fr.emp, [], 0⟩ (by kernel_rfl) ?_
    refine AW.seqK (fun K_15 hK_15 => ?_)
    refine AW.cond rfl (fun hb_16 => ?_) (fun hb_16 => False.elim (by have := of_decide_eq_false hb_16; omega))
    refine AW.skip ?_
    refine hK_15 _ ?_
    refine AW.seqK (fun K_17 hK_17 => ?_)
    refine AW.block ?_
    refine AW.srwK (fun Q_18 hQ_18 => ?_)
    refine RW.au fokW 1 [] ⟨[(1, .ptr 0 0), (5, .d (.sl 1 (List.map e3 best1))), (6, .d (.bool found1)), (7, .d (I v1)), (8, .ptr 1 0), (9, .own 2 (List.map e3 l).length), (20, .d (I (shl64 1 (x.Horses.length : Int)))), (21, .d (I v1)), (27, .d (.sl 3 (List.map e69 x.Horses))), (28, .d (I (x.Horses.length : Int))), (29, .d (I v2)), (31, .d (I v2))], [(1, .var 25 [.d (.sl 4 (List.map e58 x.Hanks)), .own 3 (List.map e69 l1).length, .d (I x.Dark), .d (I x.Near), .d (I x.Match)]), (3, .row 69 3 (List.map e69 l1)), (2, .row 3 1 (List.map e3 l)), (0, .var 25 (cv25 x))], 4, Fr.emp, [], 0⟩ (by kernel_rfl) ?_
    refine RW.one fokW (r_iaD trivial rfl rfl hi_14 (row := e69 p) (mapget hp_14) (r_end ?_))
    refine RW.au fokW 4 [] ⟨[(1, .ptr 0 0), (5, .d (.sl 1 (List.map e3 best1))), (6, .d (.bool found1)), (7, .d (I v1)), (8, .ptr 1 0), (9, .own 2 (List.map e3 l).length), (10, .d (I v2)), (11, .ptr 4 0), (20, .d (I (shl64 1 (x.Horses.length : Int)))), (21, .d (I v1)), (27, .d (.sl 3 (List.map e69 x.Horses))), (28, .d (I (x.Horses.length : Int))), (29, .d (I v2))], [(4, .var 69 [.d (I p.Mane), .d (I p.Tail), .d (I p.Shade)]), (1, .var 25 [.d (.sl 4 (List.map e58 x.Hanks)), .own 3 (List.map e69 l1).length, .d (I x.Dark), .d (I x.Near), .d (I x.Match)]), (3, .row 69 3 (List.map e69 l1)), (2, .row 3 1 (List.map e3 l)), (0, .var 25 (cv25 x))], 5, Fr.emp, [], 0⟩ (by kernel_rfl) ?_
    refine RW.nil ?_
    refine hQ_18 _ ?_
    refine AW.srwK (fun Q_19 hQ_19 => ?_)
    refine RW.au fokW 2 [] ⟨[(1, .ptr 0 0), (5, .d (.sl 1 (List.map e3 best1))), (6, .d (.bool found1)), (7, .d (I v1)), (8, .ptr 1 0), (9, .own 2 (List.map e3 l).length), (10, .d (I v2)), (11, .ptr 4 0), (20, .d (I (shl64 1 (x.Horses.length : Int)))), (21, .d (I v1)), (27, .d (.sl 3 (List.map e69 x.Horses))), (28, .d (I (x.Horses.length : Int))), (29, .d (I v2)), (34, .d (I v1)), (35, .d (I v2))], [(4, .var 69 [.d (I p.Mane), .d (I p.Tail), .d (I p.Shade)]), (1, .var 25 [.d (.sl 4 (List.map e58 x.Hanks)), .own 3 (List.map e69 l1).length, .d (I x.Dark), .d (I x.Near), .d (I x.Match)]), (3, .row 69 3 (List.map e69 l1)), (2, .row 3 1 (List.map e3 l)), (0, .var 25 (cv25 x))], 5, Fr.emp, [], 0⟩ (by kernel_rfl) ?_
    obtain ⟨_, hv_20, h⟩ := bsome h
    refine RW.one fokW (r_sh trivial rfl rfl (shr64_ok (of_decide_eq_true (must_ok hv_20))) (r_end ?_))
    refine RW.au fokW 2 [] ⟨[(1, .ptr 0 0), (5, .d (.sl 1 (List.map e3 best1))), (6, .d (.bool found1)), (7, .d (I v1)), (8, .ptr 1 0), (9, .own 2 (List.map e3 l).length), (10, .d (I v2)), (11, .ptr 4 0), (20, .d (I (shl64 1 (x.Horses.length : Int)))), (21, .d (I v1)), (27, .d (.sl 3 (List.map e69 x.Horses))), (28, .d (I (x.Horses.length : Int))), (29, .d (I v2)), (38, .d (.bool (decide ((bAnd (shr64 v1 v2) 1) = 1))))], [(4, .var 69 [.d (I p.Mane), .d (I p.Tail), .d (I p.Shade)]), (1, .var 25 [.d (.sl 4 (List.map e58 x.Hanks)), .own 3 (List.map e69 l1).length, .d (I x.Dark), .d (I x.Near), .d (I x.Match)]), (3, .row 69 3 (List.map e69 l1)), (2, .row 3 1 (List.map e3 l)), (0, .var 25 (cv25 x))], 5, Fr.emp, [], 0⟩ (by kernel_rfl) ?_
    refine RW.nil ?_
    refine hQ_19 _ ?_
    refine AW.cond rfl (fun hb_21 => ?_) (fun hb_21 => ?_)
    ·have h := ifT hb_21 h
     refine AW.rw ?_
     refine RW.au fokW 3 [] ⟨[(1, .ptr 0 0), (5, .d (.sl 1 (List.map e3 best1))), (6, .d (.bool found1)), (7, .d (I v1)), (8, .ptr 1 0), (20, .d (I (shl64 1 (x.Horses.length : Int)))), (21, .d (I v1)), (27, .d (.sl 3 (List.map e69 x.Horses))), (28, .d (I (x.Horses.length : Int))), (29, .d (I v2)), (39, .own 2 (List.map e3 l).length), (41, .own 5 (List.map e3 [v2]).length)], [(5, .row 3 1 (List.map e3 [v2])), (1, .var 25 [.d (.sl 4 (List.map e58 x.Hanks)), .own 3 (List.map e69 l1).length, .d (I x.Dark), .d (I x.Near), .d (I x.Match)]), (3, .row 69 3 (List.map e69 l1)), (2, .row 3 1 (List.map e3 l)), (0, .var 25 (cv25 x))], 6, Fr.emp, [], 0⟩ (by kernel_rfl) ?_
     obtain ⟨l2, hv_23, h⟩ := bsome h
     refine RW.one fokW (r_apO trivial rfl rfl rfl rfl rfl rfl (apz hv_23 e3) (apr hv_23 e3) (r_end ?_))
     refine RW.au fokW 1 [] ⟨[(1, .ptr 0 0), (5, .d (.sl 1 (List.map e3 best1))), (6, .d (.bool found1)), (7, .d (I v1)), (8, .ptr 1 0), (9, .own 2 (List.map e3 l2).length), (20, .d (I (shl64 1 (x.Horses.length : Int)))), (21, .d (I v1)), (27, .d (.sl 3 (List.map e69 x.Horses))), (28, .d (I (x.Horses.length : Int))), (29, .d (I v2))], [(2, .row 3 1 (List.map e3 l2)), (1, .var 25 [.d (.sl 4 (List.map e58 x.Hanks)), .own 3 (List.map e69 l1).length, .d (I x.Dark), .d (I x.Near), .d (I x.Match)]), (3, .row 69 3 (List.map e69 l1)), (0, .var 25 (cv25 x))], 6, Fr.emp, [], 0⟩ (by kernel_rfl) ?_
     refine RW.nil ?_
     refine hK_17 _ ?_
     refine AW.ra fokW [] ⟨[(1, .ptr 0 0), (5, .d (.sl 1 (List.map e3 best1))), (6, .d (.bool found1)), (7, .d (I v1)), (8, .ptr 1 0), (9, .own 2 (List.map e3 l2).length), (20, .d (I (shl64 1 (x.Horses.length : Int)))), (21, .d (I v1)), (27, .d (.sl 3 (List.map e69 x.Horses))), (28, .d (I (x.Horses.length : Int))), (29, .d (I (wr (v2 + 1))))], [(2, .row 3 1 (List.map e3 l2)), (1, .var 25 [.d (.sl 4 (List.map e58 x.Hanks)), .own 3 (List.map e69 l1).length, .d (I x.Dark), .d (I x.Near), .d (I x.Match)]), (3, .row 69 3 (List.map e69 l1)), (0, .var 25 (cv25 x))], 6, Fr.emp, [], 0⟩ (by kernel_rfl) ?_
     obtain rfl := Option.some.inj h
     have ew : wr (v2 + 1) = v2 + 1 := inext (N := (x.Horses.length : Int)) (by omega) (by omega) (by omega)
     rw [ew]
     exact hK_14 _ (Can.kp (by kernel_rfl))
    ·have h := ifF hb_21 h
     refine AW.rw ?_
     refine RW.au fokW 4 [] ⟨[(1, .ptr 0 0), (5, .d (.sl 1 (List.map e3 best1))), (6, .d (.bool found1)), (7, .d (I v1)), (8, .ptr 1 0), (9, .own 2 (List.map e3 l).length), (20, .d (I (shl64 1 (x.Horses.length : Int)))), (21, .d (I v1)), (27, .d (.sl 3 (List.map e69 x.Horses))), (28, .d (I (x.Horses.length : Int))), (29, .d (I v2)), (44, .own 3 (List.map e69 l1).length), (46, .own 5 (List.map e69 [p]).length)], [(5, .row 69 3 (List.map e69 [p])), (1, .var 25 [.d (.sl 4 (List.map e58 x.Hanks)), .own 3 (List.map e69 l1).length, .d (I x.Dark), .d (I x.Near), .d (I x.Match)]), (3, .row 69 3 (List.map e69 l1)), (2, .row 3 1 (List.map e3 l)), (0, .var 25 (cv25 x))], 6, Fr.emp, [], 0⟩ (by kernel_rfl) ?_
     obtain ⟨l3, hv_25, h⟩ := bsome h
     refine RW.one fokW (r_apO trivial rfl rfl rfl rfl rfl rfl (apz hv_25 e69) (apr hv_25 e69) (r_end ?_))
     refine RW.au fokW 2 [] ⟨[(1, .ptr 0 0), (5, .d (.sl 1 (List.map e3 best1))), (6, .d (.bool found1)), (7, .d (I v1)), (8, .ptr 1 0), (9, .own 2 (List.map e3 l).length), (20, .d (I (shl64 1 (x.Horses.length : Int)))), (21, .d (I v1)), (27, .d (.sl 3 (List.map e69 x.Horses))), (28, .d (I (x.Horses.length : Int))), (29, .d (I v2))], [(1, .var 25 [.d (.sl 4 (List.map e58 x.Hanks)), .own 3 (List.map e69 l3).length, .d (I x.Dark), .d (I x.Near), .d (I x.Match)]), (3, .row 69 3 (List.map e69 l3)), (2, .row 3 1 (List.map e3 l)), (0, .var 25 (cv25 x))], 6, Fr.emp, [], 0⟩ (by kernel_rfl) ?_
     refine RW.nil ?_
     refine hK_17 _ ?_
     refine AW.ra fokW [] ⟨[(1, .ptr 0 0), (5, .d (.sl 1 (List.map e3 best1))), (6, .d (.bool found1)), (7, .d (I v1)), (8, .ptr 1 0), (9, .own 2 (List.map e3 l).length), (20, .d (I (shl64 1 (x.Horses.length : Int)))), (21, .d (I v1)), (27, .d (.sl 3 (List.map e69 x.Horses))), (28, .d (I (x.Horses.length : Int))), (29, .d (I (wr (v2 + 1))))], [(1, .var 25 [.d (.sl 4 (List.map e58 x.Hanks)), .own 3 (List.map e69 l3).length, .d (I x.Dark), .d (I x.Near), .d (I x.Match)]), (3, .row 69 3 (List.map e69 l3)), (2, .row 3 1 (List.map e3 l)), (0, .var 25 (cv25 x))], 6, Fr.emp, [], 0⟩ (by kernel_rfl) ?_
     obtain rfl := Option.some.inj h
     have ew : wr (v2 + 1) = v2 + 1 := inext (N := (x.Horses.length : Int)) (by omega) (by omega) (by omega)
     rw [ew]
     exact hK_14 _ (Can.kp (by kernel_rfl))
   ·obtain ⟨l, l1⟩ := s_14
    subst hout
    refine AW.sa fokW [] ⟨[(1, .ptr 0 0), (5, .d (.sl 1 (List.map e3 best1))), (6, .d (.bool found1)), (7, .d (I v1)), (8, .ptr 1 0), (9, .own 2 (List.map e3 l).length), (20, .d (I (shl64 1 (x.Horses.length : Int)))), (21, .d (I v1)), (27, .d (.sl 3 (List.map e69 x.Horses))), (28, .d (I (x.Horses.length : Int))), (29, .d (I v2)), (30, .d (.bool (decide (v2 < (x.Horses.length : Int)))))], [(1, .var 25 [.d (.sl 4 (List.map e58 x.Hanks)), .own 3 (List.map e69 l1).length, .d (I x.Dark), .d (I x.Near), .d (I x.Match)]), (3, .row 69 3 (List.map e69 l1)), (2, .row 3 1 (List.map e3 l)), (0, .var 25 (cv25 x))], 4, Fr.emp, [], 0⟩ (by kernel_rfl) ?_
    refine AW.seqK (fun K_26 hK_26 => ?_)
    refine AW.cond rfl (fun hb_27 => False.elim (by have := of_decide_eq_true hb_27; omega)) (fun hb_27 => ?_)
    refine AW.exit ?_
    refine hK_12 _ ?_
    refine AW.seqK (fun K_28 hK_28 => ?_)
    refine AW.srwK (fun Q_29 hQ_29 => ?_)
    refine RW.au fokW 2 [] ⟨[(1, .ptr 0 0), (5, .d (.sl 1 (List.map e3 best1))), (6, .d (.bool found1)), (8, .ptr 1 0), (9, .own 2 (List.map e3 l).length), (20, .d (I (shl64 1 (x.Horses.length : Int)))), (21, .d (I v1)), (51, .d (.bool found1))], [(1, .var 25 [.d (.sl 4 (List.map e58 x.Hanks)), .own 3 (List.map e69 l1).length, .d (I x.Dark), .d (I x.Near), .d (I x.Match)]), (3, .row 69 3 (List.map e69 l1)), (2, .row 3 1 (List.map e3 l)), (0, .var 25 (cv25 x))], 4, Fr.emp, [], 0⟩ (by kernel_rfl) ?_
    obtain ⟨v3, hx_30, h⟩ := bsome h
    refine RW.cut fokW 19 (⟨[(1, .ptr 0 0), (5, .d (.sl 1 (List.map e3 best1))), (6, .d (.bool found1)), (8, .ptr 1 0), (9, .own 2 (List.map e3 l).length), (20, .d (I (shl64 1 (x.Horses.length : Int)))), (21, .d (I v1)), (70, .d (.bool v3))], [(1, .var 25 [.d (.sl 4 (List.map e58 x.Hanks)), .own 3 (List.map e69 l1).length, .d (I x.Dark), .d (I x.Near), .d (I x.Match)]), (3, .row 69 3 (List.map e69 l1)), (2, .row 3 1 (List.map e3 l)), (0, .var 25 (cv25 x))], 4, Fr.emp, [], 0⟩) ?_ ?_
    ·refine r_split 51 rfl (fun hb_34 => ?_) (fun hb_34 => ?_)
     ·have h := ifT hb_34 hx_30
      refine RunC.auX 1 ⟨[(1, .ptr 0 0), (5, .d (.sl 1 (List.map e3 best1))), (6, .d (.bool found1)), (8, .ptr 1 0), (9, .own 2 (List.map e3 l).length), (20, .d (I (shl64 1 (x.Horses.length : Int)))), (21, .d (I v1)), (51, .d (.bool true)), (52, .own 2 (List.map e3 l).length)], [(1, .var 25 [.d (.sl 4 (List.map e58 x.Hanks)), .own 3 (List.map e69 l1).length, .d (I x.Dark), .d (I x.Near), .d (I x.Match)]), (3, .row 69 3 (List.map e69 l1)), (2, .row 3 1 (List.map e3 l)), (0, .var 25 (cv25 x))], 4, Fr.emp, [], 0⟩ (by kernel_rfl) ?_
      refine r_lenY rfl rfl lenm ?_
      refine RunC.auX 1 ⟨[(1, .ptr 0 0), (5, .d (.sl 1 (List.map e3 best1))), (6, .d (.bool found1)), (8, .ptr 1 0), (9, .own 2 (List.map e3 l).length), (20, .d (I (shl64 1 (x.Horses.length : Int)))), (21, .d (I v1)), (51, .d (.bool true)), (53, .d (I (l.length : Int))), (54, .d (.sl 1 (List.map e3 best1)))], [(1, .var 25 [.d (.sl 4 (List.map e58 x.Hanks)), .own 3 (List.map e69 l1).length, .d (I x.Dark), .d (I x.Near), .d (I x.Match)]), (3, .row 69 3 (List.map e69 l1)), (2, .row 3 1 (List.map e3 l)), (0, .var 25 (cv25 x))], 4, Fr.emp, [], 0⟩ (by kernel_rfl) ?_
      refine r_lenX rfl rfl lenm ?_
      refine RunC.auX 2 ⟨[(1, .ptr 0 0), (5, .d (.sl 1 (List.map e3 best1))), (6, .d (.bool found1)), (8, .ptr 1 0), (9, .own 2 (List.map e3 l).length), (20, .d (I (shl64 1 (x.Horses.length : Int)))), (21, .d (I v1)), (51, .d (.bool true)), (57, .d (.bool (decide ((best1.length : Int) < (l.length : Int)))))], [(1, .var 25 [.d (.sl 4 (List.map e58 x.Hanks)), .own 3 (List.map e69 l1).length, .d (I x.Dark), .d (I x.Near), .d (I x.Match)]), (3, .row 69 3 (List.map e69 l1)), (2, .row 3 1 (List.map e3 l)), (0, .var 25 (cv25 x))], 4, Fr.emp, [], 0⟩ (by kernel_rfl) ?_
      refine r_split 57 rfl (fun hb_31 => ?_) (fun hb_31 => ?_)
      ·have h := ifT hb_31 h
       refine RunC.auX 13 ⟨[(1, .ptr 0 0), (5, .d (.sl 1 (List.map e3 best1))), (6, .d (.bool found1)), (8, .ptr 1 0), (9, .own 2 (List.map e3 l).length), (20, .d (I (shl64 1 (x.Horses.length : Int)))), (21, .d (I v1)), (70, .d (.bool true))], [(1, .var 25 [.d (.sl 4 (List.map e58 x.Hanks)), .own 3 (List.map e69 l1).length, .d (I x.Dark), .d (I x.Near), .d (I x.Match)]), (3, .row 69 3 (List.map e69 l1)), (2, .row 3 1 (List.map e3 l)), (0, .var 25 (cv25 x))], 4, Fr.emp, [], 0⟩ (by kernel_rfl) ?_
       obtain rfl := Option.some.inj h
       refine RunC.finJ (Can.kp (by kernel_rfl))
      ·have h := ifF hb_31 h
       refine RunC.auX 1 ⟨[(1, .ptr 0 0), (5, .d (.sl 1 (List.map e3 best1))), (6, .d (.bool found1)), (8, .ptr 1 0), (9, .own 2 (List.map e3 l).length), (20, .d (I (shl64 1 (x.Horses.length : Int)))), (21, .d (I v1)), (51, .d (.bool true)), (57, .d (.bool false)), (58, .own 2 (List.map e3 l).length)], [(1, .var 25 [.d (.sl 4 (List.map e58 x.Hanks)), .own 3 (List.map e69 l1).length, .d (I x.Dark), .d (I x.Near), .d (I x.Match)]), (3, .row 69 3 (List.map e69 l1)), (2, .row 3 1 (List.map e3 l)), (0, .var 25 (cv25 x))], 4, Fr.emp, [], 0⟩ (by kernel_rfl) ?_
       refine r_lenY rfl rfl lenm ?_
       refine RunC.auX 1 ⟨[(1, .ptr 0 0), (5, .d (.sl 1 (List.map e3 best1))), (6, .d (.bool found1)), (8, .ptr 1 0), (9, .own 2 (List.map e3 l).length), (20, .d (I (shl64 1 (x.Horses.length : Int)))), (21, .d (I v1)), (51, .d (.bool true)), (57, .d (.bool false)), (59, .d (I (l.length : Int))), (60, .d (.sl 1 (List.map e3 best1)))], [(1, .var 25 [.d (.sl 4 (List.map e58 x.Hanks)), .own 3 (List.map e69 l1).length, .d (I x.Dark), .d (I x.Near), .d (I x.Match)]), (3, .row 69 3 (List.map e69 l1)), (2, .row 3 1 (List.map e3 l)), (0, .var 25 (cv25 x))], 4, Fr.emp, [], 0⟩ (by kernel_rfl) ?_
       refine r_lenX rfl rfl lenm ?_
       refine RunC.auX 2 ⟨[(1, .ptr 0 0), (5, .d (.sl 1 (List.map e3 best1))), (6, .d (.bool found1)), (8, .ptr 1 0), (9, .own 2 (List.map e3 l).length), (20, .d (I (shl64 1 (x.Horses.length : Int)))), (21, .d (I v1)), (51, .d (.bool true)), (57, .d (.bool false)), (63, .d (.bool (decide ((l.length : Int) = (best1.length : Int)))))], [(1, .var 25 [.d (.sl 4 (List.map e58 x.Hanks)), .own 3 (List.map e69 l1).length, .d (I x.Dark), .d (I x.Near), .d (I x.Match)]), (3, .row 69 3 (List.map e69 l1)), (2, .row 3 1 (List.map e3 l)), (0, .var 25 (cv25 x))], 4, Fr.emp, [], 0⟩ (by kernel_rfl) ?_
       refine r_split 63 rfl (fun hb_32 => ?_) (fun hb_32 => ?_)
       ·have h := ifT hb_32 h
        refine RunC.auX 2 ⟨[(1, .ptr 0 0), (5, .d (.sl 1 (List.map e3 best1))), (6, .d (.bool found1)), (8, .ptr 1 0), (9, .own 2 (List.map e3 l).length), (20, .d (I (shl64 1 (x.Horses.length : Int)))), (21, .d (I v1)), (51, .d (.bool true)), (57, .d (.bool false)), (63, .d (.bool true)), (64, .own 2 (List.map e3 l).length), (65, .d (.sl 1 (List.map e3 best1)))], [(1, .var 25 [.d (.sl 4 (List.map e58 x.Hanks)), .own 3 (List.map e69 l1).length, .d (I x.Dark), .d (I x.Near), .d (I x.Match)]), (3, .row 69 3 (List.map e69 l1)), (2, .row 3 1 (List.map e3 l)), (0, .var 25 (cv25 x))], 4, Fr.emp, [], 0⟩ (by kernel_rfl) ?_
        obtain ⟨r0_3, hx_33, h⟩ := bsome h
        refine r_callF (rs := [(2, .row 3 1 (List.map e3 l))]) rfl rfl (k83 l best1 _ hx_33) ⟨rfl, trivial⟩ ⟨(.own rfl rfl), .refl _, trivial⟩ rfl rfl rfl ?_
        refine RunC.auX 4 ⟨[(1, .ptr 0 0), (5, .d (.sl 1 (List.map e3 best1))), (6, .d (.bool found1)), (8, .ptr 1 0), (9, .own 2 (List.map e3 l).length), (20, .d (I (shl64 1 (x.Horses.length : Int)))), (21, .d (I v1)), (70, .d (.bool (decide (0 ≤ r0_3))))], [(1, .var 25 [.d (.sl 4 (List.map e58 x.Hanks)), .own 3 (List.map e69 l1).length, .d (I x.Dark), .d (I x.Near), .d (I x.Match)]), (3, .row 69 3 (List.map e69 l1)), (2, .row 3 1 (List.map e3 l)), (0, .var 25 (cv25 x))], 4, Fr.emp, [], 0⟩ (by kernel_rfl) ?_
        obtain rfl := Option.some.inj h
        refine RunC.finJ (Can.kp (by kernel_rfl))
       ·have h := ifF hb_32 h
        refine RunC.auX 7 ⟨[(1, .ptr 0 0), (5, .d (.sl 1 (List.map e3 best1))), (6, .d (.bool found1)), (8, .ptr 1 0), (9, .own 2 (List.map e3 l).length), (20, .d (I (shl64 1 (x.Horses.length : Int)))), (21, .d (I v1)), (70, .d (.bool false))], [(1, .var 25 [.d (.sl 4 (List.map e58 x.Hanks)), .own 3 (List.map e69 l1).length, .d (I x.Dark), .d (I x.Near), .d (I x.Match)]), (3, .row 69 3 (List.map e69 l1)), (2, .row 3 1 (List.map e3 l)), (0, .var 25 (cv25 x))], 4, Fr.emp, [], 0⟩ (by kernel_rfl) ?_
        obtain rfl := Option.some.inj h
        refine RunC.finJ (Can.kp (by kernel_rfl))
     ·have h := ifF hb_34 hx_30
      refine RunC.auX 19 ⟨[(1, .ptr 0 0), (5, .d (.sl 1 (List.map e3 best1))), (6, .d (.bool found1)), (8, .ptr 1 0), (9, .own 2 (List.map e3 l).length), (20, .d (I (shl64 1 (x.Horses.length : Int)))), (21, .d (I v1)), (70, .d (.bool false))], [(1, .var 25 [.d (.sl 4 (List.map e58 x.Hanks)), .own 3 (List.map e69 l1).length, .d (I x.Dark), .d (I x.Near), .d (I x.Match)]), (3, .row 69 3 (List.map e69 l1)), (2, .row 3 1 (List.map e3 l)), (0, .var 25 (cv25 x))], 4, Fr.emp, [], 0⟩ (by kernel_rfl) ?_
      obtain rfl := Option.some.inj h
      refine RunC.finJ (Can.kp (by kernel_rfl))
    ·refine RW.nil ?_
     refine hQ_29 _ ?_
     refine AW.cond rfl (fun hb_35 => ?_) (fun hb_35 => ?_)
     ·have h := ifT hb_35 h
      refine AW.exit ?_
      refine hK_11 _ ?_
      refine AW.ra fokW [] ⟨[(1, .ptr 0 0), (5, .d (.sl 1 (List.map e3 best1))), (6, .d (.bool found1)), (20, .d (I (shl64 1 (x.Horses.length : Int)))), (21, .d (I (wr (v1 + 1))))], [(0, .var 25 (cv25 x))], 4, Fr.emp, [], 0⟩ (by kernel_rfl) ?_
      obtain rfl := Option.some.inj h
      have ew : wr (v1 + 1) = v1 + 1 := inext (N := (shl64 1 (x.Horses.length : Int))) (by omega) (by omega) (by omega)
      rw [ew]
      exact hK_8 _ (Can.kp (by kernel_rfl))
     ·have h := ifF hb_35 h
      refine AW.skip ?_
      refine hK_28 _ ?_
      refine AW.srwK (fun Q_36 hQ_36 => ?_)
      refine RW.au fokW 1 [] ⟨[(1, .ptr 0 0), (5, .d (.sl 1 (List.map e3 best1))), (6, .d (.bool found1)), (9, .own 2 (List.map e3 l).length), (20, .d (I (shl64 1 (x.Horses.length : Int)))), (21, .d (I v1)), (71, .agg [.d (.sl 4 (List.map e58 x.Hanks)), .own 3 (List.map e69 l1).length, .d (I x.Dark), .d (I x.Near), .d (I x.Match)])], [(3, .row 69 3 (List.map e69 l1)), (2, .row 3 1 (List.map e3 l)), (0, .var 25 (cv25 x))], 4, Fr.emp, [], 0⟩ (by kernel_rfl) ?_
      obtain ⟨⟨r0_HairBook, mf⟩, hx_37, h⟩ := bsome h
      refine RW.one fokW (r_callZ (zr := [(3, .row 69 3 (List.map e69 l1))]) trivial rfl (k80 (HairBook.mk x.Hanks l1 x.Dark x.Near x.Match) _ hx_37) ⟨rfl, trivial⟩ ⟨(Frz.agg_of ⟨.refl _, (.own rfl rfl), .refl _, .refl _, .refl _, trivial⟩), trivial⟩ rfl rfl rfl rfl (r_end ?_))
      obtain ⟨r0_1, hx_38, h⟩ := bsome h
      refine RW.one fokW (r_call trivial rfl (k84 r0_HairBook mf _ hx_38) rfl rfl (r_end ?_))
      refine RW.nil ?_
      refine hQ_36 _ ?_
      refine AW.cond rfl (fun hb_39 => ?_) (fun hb_39 => ?_)
      ·have h := ifT hb_39 h
       refine AW.ra fokW [] ⟨[(1, .ptr 0 0), (5, .own 2 (List.map e3 l).length), (6, .d (.bool true)), (20, .d (I (shl64 1 (x.Horses.length : Int)))), (21, .d (I v1))], [(2, .row 3 1 (List.map e3 l)), (0, .var 25 (cv25 x))], 4, Fr.emp, [], 0⟩ (by kernel_rfl) ?_
       refine hK_11 _ ?_
       refine AW.ra fokW [] ⟨[(1, .ptr 0 0), (5, .own 2 (List.map e3 l).length), (6, .d (.bool true)), (20, .d (I (shl64 1 (x.Horses.length : Int)))), (21, .d (I (wr (v1 + 1))))], [(2, .row 3 1 (List.map e3 l)), (0, .var 25 (cv25 x))], 4, Fr.emp, [], 0⟩ (by kernel_rfl) ?_
       obtain rfl := Option.some.inj h
       have ew : wr (v1 + 1) = v1 + 1 := inext (N := (shl64 1 (x.Horses.length : Int))) (by omega) (by omega) (by omega)
       rw [ew]
       exact hK_8 _ (Can.trans (Can.fzE 5 2 rfl rfl rfl) (Can.kp (by kernel_rfl)))
      ·have h := ifF hb_39 h
       refine AW.skip ?_
       refine hK_11 _ ?_
       refine AW.ra fokW [] ⟨[(1, .ptr 0 0), (5, .d (.sl 1 (List.map e3 best1))), (6, .d (.bool found1)), (20, .d (I (shl64 1 (x.Horses.length : Int)))), (21, .d (I (wr (v1 + 1))))], [(0, .var 25 (cv25 x))], 4, Fr.emp, [], 0⟩ (by kernel_rfl) ?_
       obtain rfl := Option.some.inj h
       have ew : wr (v1 + 1) = v1 + 1 := inext (N := (shl64 1 (x.Horses.length : Int))) (by omega) (by omega) (by omega)
       rw [ew]
       exact hK_8 _ (Can.kp (by kernel_rfl))
  ·obtain ⟨best1, found1⟩ := s_8
   subst hout
   refine AW.sa fokW [] ⟨[(1, .ptr 0 0), (5, .d (.sl 1 (List.map e3 best1))), (6, .d (.bool found1)), (20, .d (I (shl64 1 (x.Horses.length : Int)))), (21, .d (I v1)), (22, .d (.bool (decide (v1 < (shl64 1 (x.Horses.length : Int))))))], [(0, .var 25 (cv25 x))], 1, Fr.emp, [], 0⟩ (by kernel_rfl) ?_
   refine AW.seqK (fun K_40 hK_40 => ?_)
   refine AW.cond rfl (fun hb_41 => False.elim (by have := of_decide_eq_true hb_41; omega)) (fun hb_41 => ?_)
   refine AW.exit ?_
   refine hK_5 _ ?_
   refine AW.srwK (fun Q_42 hQ_42 => ?_)
   refine RW.au fokW 2 [] ⟨[(5, .d (.sl 1 (List.map e3 best1))), (76, .d (.sl 1 (List.map e3 best1))), (77, .d (.sl 1 (List.map e3 best1)))], [], 1, Fr.emp, [], 0⟩ (by kernel_rfl) ?_
   refine RW.one fokW (r_lenX trivial rfl lenm (r_end ?_))
   refine RW.au fokW 1 [] ⟨[(76, .d (.sl 1 (List.map e3 best1))), (78, .d (I (best1.length : Int))), (79, .d (.sl 1 (List.map e3 best1)))], [], 1, Fr.emp, [], 0⟩ (by kernel_rfl) ?_
   refine RW.one fokW (r_lenX trivial rfl lenm (r_end ?_))
   obtain ⟨l4, hv_43, h⟩ := bsome h
   refine RW.one fokW (r_slN trivial rfl rfl rfl DSl.d (slcL_ok hv_43).2.1 (by rw [List.length_map]; exact (slcL_ok hv_43).2.2.1) rfl (slz hv_43 e3) (r_end ?_))
   refine RW.au fokW 2 [] ⟨[(2, .fsl 1 (List.map e3 l4)), (3, .d (I 0))], [], 1, Fr.emp, [], 0⟩ (by kernel_rfl) ?_
   refine RW.nil ?_
   refine hQ_42 _ ?_
   obtain rfl := Option.some.inj h
   exact AW.ret (hR_0 _ (retX (.cons (.tmp rfl) (.cons (.tmp rfl) .nil)) (Frz.tup_of ⟨.fsl _ _, .refl _, trivial⟩) rfl (by kernel_rfl) (by kernel_rfl)))
def g87 (_HairBook : HairBook) (mf : List (Hair_dye × Span)) (o0 : Int) : Option Bool := (g57 o0 0 20).bind fun r0 => some r0
theorem k87 (_HairBook : HairBook) (mf : List (Hair_dye × Span)) (o0 : Int) (r : Bool) (h : g87 _HairBook mf o0 = some r) : SCall Tryd.prog Gs 87 [.agg [.d (.sl 4 (List.map e58 _HairBook.Hanks)), .d (.sl 3 (List.map e69 _HairBook.Horses)), .d (I _HairBook.Dark), .d (I _HairBook.Near), .d (I _HairBook.Match), .fmp (List.map m84_35 mf)], .ptr 0 0] [(0, .var 3 [.d (I o0)])] 1 Fr.emp (.d (.bool r)) [(0, .var 3 [.d (I o0)])] 1 Fr.emp := by
 unfold g87 at h
 refine SCall.mkK Tryd.func87 c87 rfl rfl (by kernel_rfl) (fun Q_0 hR_0 hN_0 => ?_)
 refine AW.sa fokW [] ⟨[(1, .ptr 0 0)], [(0, .var 3 [.d (I o0)])], 2, Fr.emp, [], 1⟩ (by kernel_rfl) ?_
 refine AW.srwK (fun Q_1 hQ_1 => ?_)
 refine RW.au fokW 1 [] ⟨[(4, .d (I o0))], [(0, .var 3 [.d (I o0)])], 2, Fr.emp, [], 1⟩ (by kernel_rfl) ?_
 obtain ⟨r0, hx_2, h⟩ := bsome h
 refine RW.one fokW (r_call trivial rfl (k57 o0 0 20 _ hx_2) rfl rfl (r_end ?_))
 refine RW.au fokW 1 [] ⟨[(3, .d (.bool r0))], [(0, .var 3 [.d (I o0)])], 2, Fr.emp, [], 1⟩ (by kernel_rfl) ?_
 refine RW.nil ?_
 refine hQ_1 _ ?_
 obtain rfl := Option.some.inj h
 exact AW.ret (hR_0 _ (retX (.cons (.tmp rfl) .nil) (.refl _) rfl (by kernel_rfl) (by kernel_rfl)))
end Go.Proofs.Th
