/- Told functions, and that the program does so, part 4. Conditions: none. -/
import Derived.Test.YtibenpfnlajakaaDoorTdc
set_option linter.unusedVariables false
set_option linter.unusedSimpArgs false
namespace Go.Proofs.Tz
open Go Go.Abs Go.Proofs
def g33_10 (r0_StandBook6 : StandBook) (r0_truths6 : (List (Nat → Int))) (r0_lead6 : Stand_load) : Int → Unit → Option (Ctl (Unit) (Int × Int)) := fun v _ => (g80 r0_StandBook6 r0_truths6 r0_lead6 (Stand_load.mk 0 0 0) v).bind fun (r0_StandBook, r0_truths, r0_lead, m4) => (g81a r0_StandBook r0_truths r0_lead m4).bind fun (r0_2, m0_2) => bif r0_2 then (some (.brk (v, 0))) else (some (.next ()))
def g33 (x : StandBook) : Option (Int × Int) := (g67 x true).bind fun r_19 => match r_19 with | .next (r0_StandBook5, r0_truths5, r0_lead5, r1_2) => (must (decide (r1_2 ≠ 0))).bind fun _ => some (0, r1_2) | .brk (r0_StandBook6, r0_truths6, r0_lead6, r1_3, m4_1) => bif (decide (r1_3 ≠ 0)) then (some (0, r1_3)) else (bindC (forC (g33_10 r0_StandBook6 r0_truths6 r0_lead6) (((21 : Int) - 0).toNat) 0 ()) fun _ => some (0, 4))
theorem k33 (x : StandBook) (r : Int × Int) (h : g33 x = some r) : SCall Tryd.prog Gs 33 [.agg [.d (I x.Kind), .d (I x.Front), .d (I x.Back), .d (I x.Radius), .d (.sl 4 (List.map e70 x.Parts)), .d (I x.Along), .d (I x.High), .d (I x.Lean_), .d (I x.Limit), .d (.sl 3 (List.map e65 x.Trials))]] [] 0 Fr.emp (match r with | (r0_4, r1_5) => .tup [.d (I r0_4), .d (I r1_5)]) [] 0 Fr.emp := by
  unfold g33 at h
  refine SCall.mkK Tryd.func33 c33 rfl rfl (by kernel_rfl) (fun Q_0 hR_0 hN_0 => ?_)
  refine AW.sa fokW [] ⟨[(1, .ptr 0 0)], [(0, .var 25 (cv25 x))], 1, Fr.emp, [], 0⟩ (by kernel_rfl) ?_
  refine AW.srwK (fun Q_1 hQ_1 => ?_)
  refine RW.au fokW 1 [] ⟨[(8, .agg [.d (I x.Kind), .d (I x.Front), .d (I x.Back), .d (I x.Radius), .d (.sl 4 (List.map e70 x.Parts)), .d (I x.Along), .d (I x.High), .d (I x.Lean_), .d (I x.Limit), .d (.sl 3 (List.map e65 x.Trials))])], [], 1, Fr.emp, [], 0⟩ (by kernel_rfl) ?_
  obtain ⟨r_19, hx_2, h⟩ := bsome h
  rcases r_19 with (⟨r0_StandBook5, r0_truths5, r0_lead5, r1_2⟩ | (⟨r0_StandBook6, r0_truths6, r0_lead6, r1_3, m4_1⟩))
  · refine RW.one fokW (r_callS (zr := []) [] trivial rfl (k67 x true _ hx_2) trivial rfl rfl ⟨.refl _, .refl _, trivial⟩ rfl rfl rfl (r_end ?_))
    obtain ⟨_, hv_3, h⟩ := bsome h
    have hf_4 := must_ok hv_3
    refine RW.au fokW 6 [] ⟨[(4, .ptr 1 0), (5, .d (I r1_2))], [(1, .var 83 (catV (cv25 r0_StandBook5) [.d (.sl 4 (List.map e92 r0_truths5)), .d (I r0_lead5.weight), .d (I r0_lead5.along), .d (I r0_lead5.high), .d (.nilMap)]))], 2, Fr.emp, [], 0⟩ (by kernel_rfl) ?_
    refine RW.nil ?_
    refine hQ_1 _ ?_
    refine AW.seqK (fun K_5 hK_5 => ?_)
    refine AW.sa fokW [] ⟨[(4, .ptr 1 0), (5, .d (I r1_2)), (13, .d (.bool (decide (r1_2 ≠ 0))))], [(1, .var 83 (catV (cv25 r0_StandBook5) [.d (.sl 4 (List.map e92 r0_truths5)), .d (I r0_lead5.weight), .d (I r0_lead5.along), .d (I r0_lead5.high), .d (.nilMap)]))], 2, Fr.emp, [], 0⟩ (by kernel_rfl) ?_
    refine AW.cond rfl (fun hb_6 => ?_) (fun hb_6 => False.elim (by rw [hf_4] at hb_6; cases hb_6))
    refine AW.sa fokW [] ⟨[(2, .d (I 0)), (3, .d (I r1_2))], [], 2, Fr.emp, [], 0⟩ (by kernel_rfl) ?_
    obtain rfl := Option.some.inj h
    exact AW.ret (hR_0 _ (retX (.cons (.tmp rfl) (.cons (.tmp rfl) .nil)) (.refl _) rfl (by kernel_rfl) (by kernel_rfl)))
  · refine RW.one fokW (r_callS (zr := []) [] trivial rfl (k67 x true _ hx_2) trivial rfl rfl ⟨.refl _, .refl _, trivial⟩ rfl rfl rfl (r_end ?_))
    refine RW.au fokW 6 [] ⟨[(4, .ptr 6 0), (5, .d (I r1_3))], [(6, .var 83 (catV (cv25 r0_StandBook6) [.d (.sl 4 (List.map e92 r0_truths6)), .d (I r0_lead6.weight), .d (I r0_lead6.along), .d (I r0_lead6.high), .map 5])), (5, .mp (List.map m94_34 m4_1))], 7, Fr.emp, [], 0⟩ (by kernel_rfl) ?_
    refine RW.nil ?_
    refine hQ_1 _ ?_
    refine AW.seqK (fun K_7 hK_7 => ?_)
    refine AW.sa fokW [] ⟨[(4, .ptr 6 0), (5, .d (I r1_3)), (13, .d (.bool (decide (r1_3 ≠ 0))))], [(6, .var 83 (catV (cv25 r0_StandBook6) [.d (.sl 4 (List.map e92 r0_truths6)), .d (I r0_lead6.weight), .d (I r0_lead6.along), .d (I r0_lead6.high), .map 5])), (5, .mp (List.map m94_34 m4_1))], 7, Fr.emp, [], 0⟩ (by kernel_rfl) ?_
    refine AW.cond rfl (fun hb_8 => ?_) (fun hb_8 => ?_)
    · have h := ifT hb_8 h
      refine AW.sa fokW [] ⟨[(2, .d (I 0)), (3, .d (I r1_3))], [], 7, Fr.emp, [], 0⟩ (by kernel_rfl) ?_
      obtain rfl := Option.some.inj h
      exact AW.ret (hR_0 _ (retX (.cons (.tmp rfl) (.cons (.tmp rfl) .nil)) (.refl _) rfl (by kernel_rfl) (by kernel_rfl)))
    · have h := ifF hb_8 h
      refine AW.skip ?_
      refine hK_7 _ ?_
      refine AW.seqK (fun K_9 hK_9 => ?_)
      refine AW.sa fokW [] ⟨[(4, .ptr 6 0), (15, .d (I 0))], [(6, .var 83 (catV (cv25 r0_StandBook6) [.d (.sl 4 (List.map e92 r0_truths6)), .d (I r0_lead6.weight), .d (I r0_lead6.along), .d (I r0_lead6.high), .map 5])), (5, .mp (List.map m94_34 m4_1))], 7, Fr.emp, [], 0⟩ (by kernel_rfl) ?_
      refine AW.block ?_
      have hN_10 : (21 : Int) ≤ 9223372036854775807 := by decide
      obtain ⟨out_10, hx_10, hk_10⟩ := bsomeC h
      refine AW.lpCK (fun (v : Int) (_ : Unit) => ⟨[(4, .ptr 6 0), (15, .d (I v))], [(6, .var 83 (catV (cv25 r0_StandBook6) [.d (.sl 4 (List.map e92 r0_truths6)), .d (I r0_lead6.weight), .d (I r0_lead6.along), .d (I r0_lead6.high), .map 5])), (5, .mp (List.map m94_34 m4_1))], 7, Fr.emp, [], 0⟩) (g33_10 r0_StandBook6 r0_truths6 r0_lead6) (21) hx_10 (Can.kp (by kernel_rfl)) (fun v s_10 hi_10 hl_10 c_10 h hb_10 K_10 hK_10 => ?_) (fun v s_10 hi_10 hl_10 hout => ?_)
      · unfold g33_10 at h
        refine AW.sa fokW [] ⟨[(4, .ptr 6 0), (15, .d (I v)), (16, .d (.bool (decide (v < 21))))], [(6, .var 83 (catV (cv25 r0_StandBook6) [.d (.sl 4 (List.map e92 r0_truths6)), .d (I r0_lead6.weight), .d (I r0_lead6.along), .d (I r0_lead6.high), .map 5])), (5, .mp (List.map m94_34 m4_1))], 7, Fr.emp, [], 0⟩ (by kernel_rfl) ?_
        refine AW.seqK (fun K_11 hK_11 => ?_)
        refine AW.cond rfl (fun hb_12 => ?_) (fun hb_12 => False.elim (by have := of_decide_eq_false hb_12; omega))
        refine AW.skip ?_
        refine hK_11 _ ?_
        refine AW.seqK (fun K_13 hK_13 => ?_)
        refine AW.block ?_
        refine AW.sa fokW [] ⟨[(4, .ptr 6 0), (6, .d (I v)), (15, .d (I v))], [(6, .var 83 (catV (cv25 r0_StandBook6) [.d (.sl 4 (List.map e92 r0_truths6)), .d (I r0_lead6.weight), .d (I r0_lead6.along), .d (I r0_lead6.high), .map 5])), (5, .mp (List.map m94_34 m4_1))], 7, Fr.emp, [], 0⟩ (by kernel_rfl) ?_
        refine AW.srwK (fun Q_14 hQ_14 => ?_)
        refine RW.au fokW 3 [] ⟨[(4, .ptr 6 0), (6, .d (I v)), (15, .d (I v)), (18, .agg [.d (I r0_StandBook6.Kind), .d (I r0_StandBook6.Front), .d (I r0_StandBook6.Back), .d (I r0_StandBook6.Radius), .d (.sl 4 (List.map e70 r0_StandBook6.Parts)), .d (I r0_StandBook6.Along), .d (I r0_StandBook6.High), .d (I r0_StandBook6.Lean_), .d (I r0_StandBook6.Limit), .d (.sl 3 (List.map e65 r0_StandBook6.Trials)), .d (.sl 4 (List.map e92 r0_truths6)), .d (I r0_lead6.weight), .d (I r0_lead6.along), .d (I r0_lead6.high), .map 5]), (19, .agg [.d (I 0), .d (I 0), .d (I 0)]), (20, .d (I v))], [(6, .var 83 (catV (cv25 r0_StandBook6) [.d (.sl 4 (List.map e92 r0_truths6)), .d (I r0_lead6.weight), .d (I r0_lead6.along), .d (I r0_lead6.high), .map 5])), (5, .mp (List.map m94_34 m4_1))], 7, Fr.emp, [], 0⟩ (by kernel_rfl) ?_
        obtain ⟨⟨r0_StandBook, r0_truths, r0_lead, m4⟩, hx_15, h⟩ := bsome h
        refine RW.one fokW (r_callS (zr := []) [] trivial rfl (k80 r0_StandBook6 r0_truths6 r0_lead6 (Stand_load.mk 0 0 0) v _ hx_15) trivial rfl rfl ⟨(Frz.agg_of ⟨.refl _, .refl _, .refl _, .refl _, .refl _, .refl _, .refl _, .refl _, .refl _, .refl _, .refl _, .refl _, .refl _, .refl _, (.opq rfl (by intro _ h; cases h)), trivial⟩), .refl _, .refl _, trivial⟩ rfl rfl rfl (r_end ?_))
        obtain ⟨⟨r0_2, m0_2⟩, hx_16, h⟩ := bsome h
        refine RW.one fokW (r_callS (zr := []) [11] trivial rfl (k81a r0_StandBook r0_truths r0_lead m4 _ hx_16) ⟨rfl, trivial⟩ rfl rfl ⟨.refl _, trivial⟩ rfl rfl rfl (r_end ?_))
        refine RW.nil ?_
        refine hQ_14 _ ?_
        refine AW.cond rfl (fun hb_17 => ?_) (fun hb_17 => ?_)
        · have h := ifT hb_17 h
          refine AW.sa fokW [] ⟨[(2, .d (I v)), (3, .d (I 0))], [], 12, Fr.emp, [], 0⟩ (by kernel_rfl) ?_
          obtain rfl := Option.some.inj h
          have e_1 := hb_10 _ rfl
          subst e_1
          obtain rfl := Aft.bk hk_10
          exact AW.ret (hR_0 _ (retX (.cons (.tmp rfl) (.cons (.tmp rfl) .nil)) (.refl _) rfl (by kernel_rfl) (by kernel_rfl)))
        · have h := ifF hb_17 h
          refine AW.skip ?_
          refine hK_13 _ ?_
          refine AW.ra fokW [] ⟨[(4, .ptr 6 0), (15, .d (I (wr (v + 1))))], [(6, .var 83 (catV (cv25 r0_StandBook6) [.d (.sl 4 (List.map e92 r0_truths6)), .d (I r0_lead6.weight), .d (I r0_lead6.along), .d (I r0_lead6.high), .map 5])), (5, .mp (List.map m94_34 m4_1))], 12, Fr.emp, [], 0⟩ (by kernel_rfl) ?_
          obtain rfl := Option.some.inj h
          have ew : wr (v + 1) = v + 1 := inext (N := 21) (by omega) (by omega) (by omega)
          rw [ew]
          exact hK_10 _ _ rfl (Can.kp (by kernel_rfl))
      · subst hout
        have h := Aft.nx hk_10
        refine AW.sa fokW [] ⟨[(4, .ptr 6 0), (15, .d (I v)), (16, .d (.bool (decide (v < 21))))], [(6, .var 83 (catV (cv25 r0_StandBook6) [.d (.sl 4 (List.map e92 r0_truths6)), .d (I r0_lead6.weight), .d (I r0_lead6.along), .d (I r0_lead6.high), .map 5])), (5, .mp (List.map m94_34 m4_1))], 7, Fr.emp, [], 0⟩ (by kernel_rfl) ?_
        refine AW.seqK (fun K_18 hK_18 => ?_)
        refine AW.cond rfl (fun hb_19 => False.elim (by have := of_decide_eq_true hb_19; omega)) (fun hb_19 => ?_)
        refine AW.exit ?_
        refine hK_9 _ ?_
        refine AW.sa fokW [] ⟨[(2, .d (I 0)), (3, .d (I 4))], [], 7, Fr.emp, [], 0⟩ (by kernel_rfl) ?_
        obtain rfl := Option.some.inj h
        exact AW.ret (hR_0 _ (retX (.cons (.tmp rfl) (.cons (.tmp rfl) .nil)) (.refl _) rfl (by kernel_rfl) (by kernel_rfl)))
def g58  : Option StandBook := (g47 21 (-8) false).bind fun r0 => (g47 20 (-8) true).bind fun r0_1 => (g57 [r0, r0_1]).bind fun r0_2 => some r0_2
theorem k58  (r : StandBook) (h : g58 = some r) : SCall Tryd.prog Gs 58 [] [] 0 Fr.emp (.agg [.d (I r.Kind), .d (I r.Front), .d (I r.Back), .d (I r.Radius), .d (.sl 4 (List.map e70 r.Parts)), .d (I r.Along), .d (I r.High), .d (I r.Lean_), .d (I r.Limit), .d (.sl 3 (List.map e65 r.Trials))]) [] 0 Fr.emp := by
  unfold g58 at h
  refine SCall.mkK Tryd.func58 c58 rfl rfl (by kernel_rfl) (fun Q_0 hR_0 hN_0 => ?_)
  refine AW.sa fokW [] ⟨[(0, .ptr 0 0)], [(0, .var 25 [.d (I 0), .d (I 0), .d (I 0), .d (I 0), .d (.nilSl), .d (I 0), .d (I 0), .d (I 0), .d (I 0), .d (.nilSl)])], 1, Fr.emp, [], 0⟩ (by kernel_rfl) ?_
  refine AW.srwK (fun Q_1 hQ_1 => ?_)
  obtain ⟨r0, hx_2, h⟩ := bsome h
  refine RW.one fokW (r_call trivial rfl (k47 21 (-8) false _ hx_2) rfl rfl (r_end ?_))
  obtain ⟨r0_1, hx_3, h⟩ := bsome h
  refine RW.one fokW (r_call trivial rfl (k47 20 (-8) true _ hx_3) rfl rfl (r_end ?_))
  refine RW.au fokW 1 [] ⟨[(0, .ptr 0 0), (3, .own 1 (List.map e65 [r0, r0_1]).length)], [(1, .row 65 3 (List.map e65 [r0, r0_1])), (0, .var 25 [.d (I 0), .d (I 0), .d (I 0), .d (I 0), .d (.nilSl), .d (I 0), .d (I 0), .d (I 0), .d (I 0), .d (.nilSl)])], 2, Fr.emp, [], 0⟩ (by kernel_rfl) ?_
  obtain ⟨r0_2, hx_4, h⟩ := bsome h
  refine RW.one fokW (r_callZ (zr := [(1, .row 65 3 (List.map e65 [r0, r0_1]))]) trivial rfl (k57 [r0, r0_1] _ hx_4) ⟨rfl, trivial⟩ ⟨(.own rfl rfl), trivial⟩ rfl rfl rfl rfl (r_end ?_))
  refine RW.au fokW 1 [] ⟨[(0, .ptr 0 0)], [(0, .var 25 (cv25 r0_2))], 2, Fr.emp, [], 0⟩ (by kernel_rfl) ?_
  refine RW.nil ?_
  refine hQ_1 _ ?_
  obtain rfl := Option.some.inj h
  exact AW.ret (hR_0 _ (retX (.cons (.agg rfl rfl (Nat.le_of_ble_eq_true rfl)) .nil) (.refl _) rfl (by kernel_rfl) (by kernel_rfl)))
def g84a (b_StandBook : StandBook) (b_truths : (List (Nat → Int))) (b_lead : Stand_load) : Option (StandBook × (List (Nat → Int)) × Stand_load) := some (b_StandBook, b_truths, b_lead)
theorem k84a (b_StandBook : StandBook) (b_truths : (List (Nat → Int))) (b_lead : Stand_load) (r : StandBook × (List (Nat → Int)) × Stand_load) (h : g84a b_StandBook b_truths b_lead = some r) : SCall Tryd.prog Gs 84 [.agg [.d (I b_StandBook.Kind), .d (I b_StandBook.Front), .d (I b_StandBook.Back), .d (I b_StandBook.Radius), .d (.sl 4 (List.map e70 b_StandBook.Parts)), .d (I b_StandBook.Along), .d (I b_StandBook.High), .d (I b_StandBook.Lean_), .d (I b_StandBook.Limit), .d (.sl 3 (List.map e65 b_StandBook.Trials)), .d (.sl 4 (List.map e92 b_truths)), .d (I b_lead.weight), .d (I b_lead.along), .d (I b_lead.high), .d (.nilMap)]] [] 0 Fr.emp (match r with | (o0_StandBook, o0_truths, o0_lead) => .clo 98 [] [.ptr 0 0]) (match r with | (o0_StandBook, o0_truths, o0_lead) => [(0, .var 83 (catV (cv25 o0_StandBook) [.d (.sl 4 (List.map e92 o0_truths)), .d (I o0_lead.weight), .d (I o0_lead.along), .d (I o0_lead.high), .d (.nilMap)]))]) 1 Fr.emp := by
  unfold g84a at h
  refine SCall.mkK Tryd.func84 c84 rfl rfl (by kernel_rfl) (fun Q_0 hR_0 hN_0 => ?_)
  refine AW.sa fokW [] ⟨[(1, .ptr 0 0)], [(0, .var 83 (catV (cv25 b_StandBook) [.d (.sl 4 (List.map e92 b_truths)), .d (I b_lead.weight), .d (I b_lead.along), .d (I b_lead.high), .d (.nilMap)]))], 1, Fr.emp, [], 0⟩ (by kernel_rfl) ?_
  refine AW.sa fokW [] ⟨[(2, .clo 98 [] [.ptr 0 0])], [(0, .var 83 (catV (cv25 b_StandBook) [.d (.sl 4 (List.map e92 b_truths)), .d (I b_lead.weight), .d (I b_lead.along), .d (I b_lead.high), .d (.nilMap)]))], 1, Fr.emp, [], 0⟩ (by kernel_rfl) ?_
  obtain rfl := Option.some.inj h
  exact AW.ret (hR_0 _ (retX (.cons (.tmp rfl) .nil) (.refl _) rfl (by kernel_rfl) (by kernel_rfl)))
def g99a_12 {S_ : Type} (rec_ : (Nat → Int) → Int → StandBook → (List (Nat → Int)) → Stand_load → S_ → Option (Bool × S_)) (part : Int) (o0_StandBook : StandBook) (o0_truths : (List (Nat → Int))) (o0_lead : Stand_load) (p : StandPart) : Int → (S_ × (Nat → Int)) → Option (Ctl (S_ × (Nat → Int)) (Ctl (S_) (Ctl (S_) (Bool × S_)))) := fun v (s_4, w1) => (ixN 4 part).bind fun j => (rec_ (aset w1 j (wr (p.Weight.Low + v))) (wr (part + 1)) o0_StandBook o0_truths o0_lead s_4).bind fun (r0_5_1, s_8_1) => bif (!r0_5_1) then (some (.brk (.brk (.brk (false, s_8_1))))) else (some (.next (s_8_1, (aset w1 j (wr (p.Weight.Low + v))))))
def g99a {S_ : Type} (c_ : (Nat → Int) → S_ → Option (S_ × Bool)) : Nat → (Nat → Int) → Int → StandBook → (List (Nat → Int)) → Stand_load → S_ → Option (Bool × S_)
  | 0, _, _, _, _, _, _ => none
  | n_ + 1, w, part, o0_StandBook, o0_truths, o0_lead, s_ => bif (decide (part = (o0_StandBook.Parts.length : Int))) then ((g100).bind fun r0 => bif (false != (((w 0) == (r0 0)) && (((w 1) == (r0 1)) && (((w 2) == (r0 2)) && (((w 3) == (r0 3)) && true))))) then (some (true, s_)) else ((c_ w s_).bind fun (s_1, go) => some (go, s_1))) else ((ixL o0_StandBook.Parts part).bind fun p => bindC (bindC (bindC (forC (g99a_12 (g99a c_ n_) part o0_StandBook o0_truths o0_lead p) ((((wr ((wr (p.Weight.High - p.Weight.Low)) + 1)) : Int) - 0).toNat) 0 (s_, w)) fun (s_4, w1) => some (.next s_4) : Option (Ctl (S_) (Ctl (S_) (Bool × S_)))) fun s_3 => some (.next s_3) : Option (Ctl (S_) (Bool × S_))) fun s_2 => some (true, s_2))
theorem k99a {S_ : Type} (fr_ : S_ → Fr) (c_ : (Nat → Int) → S_ → Option (S_ × Bool)) (hc_ : ∀ (a0 : (Nat → Int)) s s2 b, c_ a0 s = some (s2, b) → YCall Tryd.prog Gs (fr_ s) [.agg [.d (I (a0 0)), .d (I (a0 1)), .d (I (a0 2)), .d (I (a0 3))]] (.d (.bool b)) (fr_ s2)) : ∀ (n_ : Nat) (w : (Nat → Int)) (part : Int) (o0_StandBook : StandBook) (o0_truths : (List (Nat → Int))) (o0_lead : Stand_load) (s_ : S_) (r : Bool × S_) (h : g99a c_ n_ w part o0_StandBook o0_truths o0_lead s_ = some r), SCall Tryd.prog Gs 99 [.agg [.d (I (w 0)), .d (I (w 1)), .d (I (w 2)), .d (I (w 3))], .d (I part), .ptr 0 0, .ptr 1 0, .ptr 2 0] [(0, .var 83 (catV (cv25 o0_StandBook) [.d (.sl 4 (List.map e92 o0_truths)), .d (I o0_lead.weight), .d (I o0_lead.along), .d (I o0_lead.high), .d (.nilMap)])), (1, .var 126 [.yld]), (2, .var 127 [.clo 99 [] [.ptr 0 0, .ptr 1 0, .ptr 2 0]])] 3 (fr_ s_) (match r with | (r0_5, s_8) => .d (.bool r0_5)) (match r with | (r0_5, s_8) => [(0, .var 83 (catV (cv25 o0_StandBook) [.d (.sl 4 (List.map e92 o0_truths)), .d (I o0_lead.weight), .d (I o0_lead.along), .d (I o0_lead.high), .d (.nilMap)])), (1, .var 126 [.yld]), (2, .var 127 [.clo 99 [] [.ptr 0 0, .ptr 1 0, .ptr 2 0]])]) 3 (fr_ (match r with | (r0_5, s_8) => s_8)) := by
  intro n_
  induction n_ with
  | zero => intro w part o0_StandBook o0_truths o0_lead s_ r h; cases h
  | succ n_ ih =>
    intro w part o0_StandBook o0_truths o0_lead s_ r h
    rw [g99a] at h
    refine SCall.mkK Tryd.func99 c99 rfl rfl (by kernel_rfl) (fun Q_0 hR_0 hN_0 => ?_)
    refine AW.sa fokW [] ⟨[(1, .d (I part)), (2, .ptr 0 0), (3, .ptr 1 0), (4, .ptr 2 0), (5, .ptr 3 0)], [(3, .var 92 [.d (I (w 0)), .d (I (w 1)), .d (I (w 2)), .d (I (w 3))]), (0, .var 83 (catV (cv25 o0_StandBook) [.d (.sl 4 (List.map e92 o0_truths)), .d (I o0_lead.weight), .d (I o0_lead.along), .d (I o0_lead.high), .d (.nilMap)])), (1, .var 126 [.yld]), (2, .var 127 [.clo 99 [] [.ptr 0 0, .ptr 1 0, .ptr 2 0]])], 4, (fr_ s_), [], 3⟩ (by kernel_rfl) ?_
    refine AW.seqK (fun K_1 hK_1 => ?_)
    refine AW.srwK (fun Q_2 hQ_2 => ?_)
    refine RW.au fokW 4 [] ⟨[(1, .d (I part)), (2, .ptr 0 0), (3, .ptr 1 0), (4, .ptr 2 0), (5, .ptr 3 0), (10, .d (I part)), (13, .d (.sl 4 (List.map e70 o0_StandBook.Parts)))], [(3, .var 92 [.d (I (w 0)), .d (I (w 1)), .d (I (w 2)), .d (I (w 3))]), (0, .var 83 (catV (cv25 o0_StandBook) [.d (.sl 4 (List.map e92 o0_truths)), .d (I o0_lead.weight), .d (I o0_lead.along), .d (I o0_lead.high), .d (.nilMap)])), (1, .var 126 [.yld]), (2, .var 127 [.clo 99 [] [.ptr 0 0, .ptr 1 0, .ptr 2 0]])], 4, (fr_ s_), [], 3⟩ (by kernel_rfl) ?_
    refine RW.one fokW (r_lenX trivial rfl lenm (r_end ?_))
    refine RW.au fokW 1 [] ⟨[(1, .d (I part)), (2, .ptr 0 0), (3, .ptr 1 0), (4, .ptr 2 0), (5, .ptr 3 0), (15, .d (.bool (decide (part = (o0_StandBook.Parts.length : Int)))))], [(3, .var 92 [.d (I (w 0)), .d (I (w 1)), .d (I (w 2)), .d (I (w 3))]), (0, .var 83 (catV (cv25 o0_StandBook) [.d (.sl 4 (List.map e92 o0_truths)), .d (I o0_lead.weight), .d (I o0_lead.along), .d (I o0_lead.high), .d (.nilMap)])), (1, .var 126 [.yld]), (2, .var 127 [.clo 99 [] [.ptr 0 0, .ptr 1 0, .ptr 2 0]])], 4, (fr_ s_), [], 3⟩ (by kernel_rfl) ?_
    refine RW.nil ?_
    refine hQ_2 _ ?_
    refine AW.cond rfl (fun hb_3 => ?_) (fun hb_3 => ?_)
    · have h := ifT hb_3 h
      refine AW.sdrwK fokW (fun Q_4 hQ_4 => ?_)
      refine RunC.auX 1 ⟨[(3, .ptr 1 0), (5, .ptr 3 0), (16, .agg [.d (I (w 0)), .d (I (w 1)), .d (I (w 2)), .d (I (w 3))])], [(3, .var 92 [.d (I (w 0)), .d (I (w 1)), .d (I (w 2)), .d (I (w 3))]), (0, .var 83 (catV (cv25 o0_StandBook) [.d (.sl 4 (List.map e92 o0_truths)), .d (I o0_lead.weight), .d (I o0_lead.along), .d (I o0_lead.high), .d (.nilMap)])), (1, .var 126 [.yld]), (2, .var 127 [.clo 99 [] [.ptr 0 0, .ptr 1 0, .ptr 2 0]])], 4, (fr_ s_), [], 3⟩ (by kernel_rfl) ?_
      obtain ⟨r0, hx_5, h⟩ := bsome h
      refine r_call trivial rfl (k100 _ hx_5) rfl rfl ?_
      refine r_aeq trivial rfl rfl rfl rfl ft92 rfl rfl rfl ?_
      refine RunC.auX 1 ⟨[(3, .ptr 1 0), (5, .ptr 3 0), (19, .d (.bool (false != (((w 0) == (r0 0)) && (((w 1) == (r0 1)) && (((w 2) == (r0 2)) && (((w 3) == (r0 3)) && true)))))))], [(3, .var 92 [.d (I (w 0)), .d (I (w 1)), .d (I (w 2)), .d (I (w 3))]), (0, .var 83 (catV (cv25 o0_StandBook) [.d (.sl 4 (List.map e92 o0_truths)), .d (I o0_lead.weight), .d (I o0_lead.along), .d (I o0_lead.high), .d (.nilMap)])), (1, .var 126 [.yld]), (2, .var 127 [.clo 99 [] [.ptr 0 0, .ptr 1 0, .ptr 2 0]])], 4, (fr_ s_), [], 3⟩ (by kernel_rfl) ?_
      refine r_split 19 rfl (fun hb_6 => ?_) (fun hb_6 => ?_)
      · have h := ifT hb_6 h
        refine RunC.auX 5 ⟨[(7, .d (.bool true))], [(3, .var 92 [.d (I (w 0)), .d (I (w 1)), .d (I (w 2)), .d (I (w 3))]), (0, .var 83 (catV (cv25 o0_StandBook) [.d (.sl 4 (List.map e92 o0_truths)), .d (I o0_lead.weight), .d (I o0_lead.along), .d (I o0_lead.high), .d (.nilMap)])), (1, .var 126 [.yld]), (2, .var 127 [.clo 99 [] [.ptr 0 0, .ptr 1 0, .ptr 2 0]])], 4, (fr_ s_), [], 3⟩ (by kernel_rfl) ?_
        refine RunC.fin ⟨[(7, .d (.bool true))], [(0, .var 83 (catV (cv25 o0_StandBook) [.d (.sl 4 (List.map e92 o0_truths)), .d (I o0_lead.weight), .d (I o0_lead.along), .d (I o0_lead.high), .d (.nilMap)])), (1, .var 126 [.yld]), (2, .var 127 [.clo 99 [] [.ptr 0 0, .ptr 1 0, .ptr 2 0]])], 4, (fr_ s_), [], 3⟩ (by kernel_rfl) (by kernel_rfl) ?_
        refine hQ_4 _ ?_
        obtain rfl := Option.some.inj h
        exact AW.ret (hR_0 _ (retX (.cons (.tmp rfl) .nil) (.refl _) rfl (by kernel_rfl) (by kernel_rfl)))
      · have h := ifF hb_6 h
        refine RunC.auX 2 ⟨[(19, .d (.bool false)), (20, .yld), (21, .agg [.d (I (w 0)), .d (I (w 1)), .d (I (w 2)), .d (I (w 3))])], [(3, .var 92 [.d (I (w 0)), .d (I (w 1)), .d (I (w 2)), .d (I (w 3))]), (0, .var 83 (catV (cv25 o0_StandBook) [.d (.sl 4 (List.map e92 o0_truths)), .d (I o0_lead.weight), .d (I o0_lead.along), .d (I o0_lead.high), .d (.nilMap)])), (1, .var 126 [.yld]), (2, .var 127 [.clo 99 [] [.ptr 0 0, .ptr 1 0, .ptr 2 0]])], 4, (fr_ s_), [], 3⟩ (by kernel_rfl) ?_
        obtain ⟨⟨s_1, go⟩, hx_7, h⟩ := bsome h
        refine r_yield (zr := []) rfl rfl rfl (hc_ w _ _ _ hx_7) trivial ⟨.refl _, trivial⟩ rfl rfl rfl rfl ?_
        refine RunC.auX 2 ⟨[(7, .d (.bool go))], [(3, .var 92 [.d (I (w 0)), .d (I (w 1)), .d (I (w 2)), .d (I (w 3))]), (0, .var 83 (catV (cv25 o0_StandBook) [.d (.sl 4 (List.map e92 o0_truths)), .d (I o0_lead.weight), .d (I o0_lead.along), .d (I o0_lead.high), .d (.nilMap)])), (1, .var 126 [.yld]), (2, .var 127 [.clo 99 [] [.ptr 0 0, .ptr 1 0, .ptr 2 0]])], 4, (fr_ s_1), [], 3⟩ (by kernel_rfl) ?_
        refine RunC.fin ⟨[(7, .d (.bool go))], [(0, .var 83 (catV (cv25 o0_StandBook) [.d (.sl 4 (List.map e92 o0_truths)), .d (I o0_lead.weight), .d (I o0_lead.along), .d (I o0_lead.high), .d (.nilMap)])), (1, .var 126 [.yld]), (2, .var 127 [.clo 99 [] [.ptr 0 0, .ptr 1 0, .ptr 2 0]])], 4, (fr_ s_1), [], 3⟩ (by kernel_rfl) (by kernel_rfl) ?_
        refine hQ_4 _ ?_
        obtain rfl := Option.some.inj h
        exact AW.ret (hR_0 _ (retX (.cons (.tmp rfl) .nil) (.refl _) rfl (by kernel_rfl) (by kernel_rfl)))
    · have h := ifF hb_3 h
      refine AW.skip ?_
      refine hK_1 _ ?_
      refine AW.srwK (fun Q_8 hQ_8 => ?_)
      refine RW.au fokW 4 [] ⟨[(1, .d (I part)), (4, .ptr 2 0), (5, .ptr 3 0), (26, .d (.sl 4 (List.map e70 o0_StandBook.Parts))), (27, .d (I part))], [(3, .var 92 [.d (I (w 0)), .d (I (w 1)), .d (I (w 2)), .d (I (w 3))]), (0, .var 83 (catV (cv25 o0_StandBook) [.d (.sl 4 (List.map e92 o0_truths)), .d (I o0_lead.weight), .d (I o0_lead.along), .d (I o0_lead.high), .d (.nilMap)])), (1, .var 126 [.yld]), (2, .var 127 [.clo 99 [] [.ptr 0 0, .ptr 1 0, .ptr 2 0]])], 4, (fr_ s_), [], 3⟩ (by kernel_rfl) ?_
      obtain ⟨p, hv_9, h⟩ := bsome h
      refine RW.one fokW (r_iaD trivial rfl rfl (ixL_ok hv_9).1 (row := e70 p) (mapget (ixL_ok hv_9).2) (r_end ?_))
      refine RW.au fokW 4 [] ⟨[(1, .d (I part)), (4, .ptr 2 0), (5, .ptr 3 0), (8, .ptr 4 0)], [(4, .var 42 [.d (I p.Weight.Low), .d (I p.Weight.High)]), (3, .var 92 [.d (I (w 0)), .d (I (w 1)), .d (I (w 2)), .d (I (w 3))]), (0, .var 83 (catV (cv25 o0_StandBook) [.d (.sl 4 (List.map e92 o0_truths)), .d (I o0_lead.weight), .d (I o0_lead.along), .d (I o0_lead.high), .d (.nilMap)])), (1, .var 126 [.yld]), (2, .var 127 [.clo 99 [] [.ptr 0 0, .ptr 1 0, .ptr 2 0]])], 5, (fr_ s_), [], 3⟩ (by kernel_rfl) ?_
      refine RW.nil ?_
      refine hQ_8 _ ?_
      obtain ⟨c_10, hx_10, hk_10⟩ := bsomeC h
      refine AW.jnK (fun (s_2 : S_) => ⟨[], [(0, .var 83 (catV (cv25 o0_StandBook) [.d (.sl 4 (List.map e92 o0_truths)), .d (I o0_lead.weight), .d (I o0_lead.along), .d (I o0_lead.high), .d (.nilMap)])), (1, .var 126 [.yld]), (2, .var 127 [.clo 99 [] [.ptr 0 0, .ptr 1 0, .ptr 2 0]])], 3, (fr_ s_2), [], 3⟩) (c := c_10) (fun K_10 hK_10 => ?_) (fun s_2 hj_10 => ?_)
      · have h := hx_10
        refine AW.sa fokW [] ⟨[(1, .d (I part)), (4, .ptr 2 0), (5, .ptr 3 0), (8, .ptr 4 0), (36, .d (I (wr ((wr (p.Weight.High - p.Weight.Low)) + 1)))), (37, .d (I 0))], [(4, .var 42 [.d (I p.Weight.Low), .d (I p.Weight.High)]), (3, .var 92 [.d (I (w 0)), .d (I (w 1)), .d (I (w 2)), .d (I (w 3))]), (0, .var 83 (catV (cv25 o0_StandBook) [.d (.sl 4 (List.map e92 o0_truths)), .d (I o0_lead.weight), .d (I o0_lead.along), .d (I o0_lead.high), .d (.nilMap)])), (1, .var 126 [.yld]), (2, .var 127 [.clo 99 [] [.ptr 0 0, .ptr 1 0, .ptr 2 0]])], 5, (fr_ s_), [], 3⟩ (by kernel_rfl) ?_
        obtain ⟨c_11, hx_11, hk_11⟩ := bsomeC h
        refine AW.jqK (fun (s_3 : S_) => ⟨[], [(0, .var 83 (catV (cv25 o0_StandBook) [.d (.sl 4 (List.map e92 o0_truths)), .d (I o0_lead.weight), .d (I o0_lead.along), .d (I o0_lead.high), .d (.nilMap)])), (1, .var 126 [.yld]), (2, .var 127 [.clo 99 [] [.ptr 0 0, .ptr 1 0, .ptr 2 0]])], 3, (fr_ s_3), [], 3⟩) (c := c_11) (fun K_11 hK_11 => ?_) (fun s_3 hj_11 => ?_)
        · have h := hx_11
          refine AW.block ?_
          have hN_12 : (wr ((wr (p.Weight.High - p.Weight.Low)) + 1)) ≤ 9223372036854775807 := (wr_range _).2
          obtain ⟨out_12, hx_12, hk_12⟩ := bsomeC h
          refine AW.lpCK (fun (v : Int) (⟨s_4, w1⟩ : S_ × (Nat → Int)) => ⟨[(1, .d (I part)), (4, .ptr 2 0), (5, .ptr 3 0), (8, .ptr 4 0), (36, .d (I (wr ((wr (p.Weight.High - p.Weight.Low)) + 1)))), (37, .d (I v))], [(4, .var 42 [.d (I p.Weight.Low), .d (I p.Weight.High)]), (3, .var 92 [.d (I (w1 0)), .d (I (w1 1)), .d (I (w1 2)), .d (I (w1 3))]), (0, .var 83 (catV (cv25 o0_StandBook) [.d (.sl 4 (List.map e92 o0_truths)), .d (I o0_lead.weight), .d (I o0_lead.along), .d (I o0_lead.high), .d (.nilMap)])), (1, .var 126 [.yld]), (2, .var 127 [.clo 99 [] [.ptr 0 0, .ptr 1 0, .ptr 2 0]])], 5, (fr_ s_4), [], 3⟩) (g99a_12 (g99a c_ n_) part o0_StandBook o0_truths o0_lead p) ((wr ((wr (p.Weight.High - p.Weight.Low)) + 1))) hx_12 (Can.kp (by kernel_rfl)) (fun v s_12 hi_12 hl_12 c_12 h hb_12 K_12 hK_12 => ?_) (fun v s_12 hi_12 hl_12 hout => ?_)
          · obtain ⟨s_4, w1⟩ := s_12
            unfold g99a_12 at h
            refine AW.sa fokW [] ⟨[(1, .d (I part)), (4, .ptr 2 0), (5, .ptr 3 0), (8, .ptr 4 0), (36, .d (I (wr ((wr (p.Weight.High - p.Weight.Low)) + 1)))), (37, .d (I v)), (38, .d (.bool (decide (v < (wr ((wr (p.Weight.High - p.Weight.Low)) + 1))))))], [(4, .var 42 [.d (I p.Weight.Low), .d (I p.Weight.High)]), (3, .var 92 [.d (I (w1 0)), .d (I (w1 1)), .d (I (w1 2)), .d (I (w1 3))]), (0, .var 83 (catV (cv25 o0_StandBook) [.d (.sl 4 (List.map e92 o0_truths)), .d (I o0_lead.weight), .d (I o0_lead.along), .d (I o0_lead.high), .d (.nilMap)])), (1, .var 126 [.yld]), (2, .var 127 [.clo 99 [] [.ptr 0 0, .ptr 1 0, .ptr 2 0]])], 5, (fr_ s_4), [], 3⟩ (by kernel_rfl) ?_
            refine AW.seqK (fun K_13 hK_13 => ?_)
            refine AW.cond rfl (fun hb_14 => ?_) (fun hb_14 => False.elim (by have := of_decide_eq_false hb_14; omega))
            refine AW.skip ?_
            refine hK_13 _ ?_
            refine AW.seqK (fun K_15 hK_15 => ?_)
            refine AW.block ?_
            refine AW.sa fokW [] ⟨[(1, .d (I part)), (4, .ptr 2 0), (5, .ptr 3 0), (8, .ptr 4 0), (9, .d (I v)), (36, .d (I (wr ((wr (p.Weight.High - p.Weight.Low)) + 1)))), (37, .d (I v))], [(4, .var 42 [.d (I p.Weight.Low), .d (I p.Weight.High)]), (3, .var 92 [.d (I (w1 0)), .d (I (w1 1)), .d (I (w1 2)), .d (I (w1 3))]), (0, .var 83 (catV (cv25 o0_StandBook) [.d (.sl 4 (List.map e92 o0_truths)), .d (I o0_lead.weight), .d (I o0_lead.along), .d (I o0_lead.high), .d (.nilMap)])), (1, .var 126 [.yld]), (2, .var 127 [.clo 99 [] [.ptr 0 0, .ptr 1 0, .ptr 2 0]])], 5, (fr_ s_4), [], 3⟩ (by kernel_rfl) ?_
            refine AW.srwK (fun Q_16 hQ_16 => ?_)
            refine RW.au fokW 5 [] ⟨[(1, .d (I part)), (4, .ptr 2 0), (5, .ptr 3 0), (8, .ptr 4 0), (36, .d (I (wr ((wr (p.Weight.High - p.Weight.Low)) + 1)))), (37, .d (I v)), (40, .d (I part)), (44, .d (I (wr (p.Weight.Low + v))))], [(4, .var 42 [.d (I p.Weight.Low), .d (I p.Weight.High)]), (3, .var 92 [.d (I (w1 0)), .d (I (w1 1)), .d (I (w1 2)), .d (I (w1 3))]), (0, .var 83 (catV (cv25 o0_StandBook) [.d (.sl 4 (List.map e92 o0_truths)), .d (I o0_lead.weight), .d (I o0_lead.along), .d (I o0_lead.high), .d (.nilMap)])), (1, .var 126 [.yld]), (2, .var 127 [.clo 99 [] [.ptr 0 0, .ptr 1 0, .ptr 2 0]])], 5, (fr_ s_4), [], 3⟩ (by kernel_rfl) ?_
            obtain ⟨j, hv_17, h⟩ := bsome h
            refine RW.one fokW (r_iaV trivial rfl rfl rfl (ixN_ok hv_17).1 (ixN_ok hv_17).2.1 (r_end ?_))
            refine RW.one fokW (r_stX trivial rfl rfl rfl rfl rfl (aslot hv_17 rfl) (cs' := [.d (I ((aset w1 j (wr (p.Weight.Low + v))) 0)), .d (I ((aset w1 j (wr (p.Weight.Low + v))) 1)), .d (I ((aset w1 j (wr (p.Weight.Low + v))) 2)), .d (I ((aset w1 j (wr (p.Weight.Low + v))) 3))]) (ast (w := w1) (c := fun z => .d (I z)) hv_17) (r_end ?_))
            refine RW.nil ?_
            refine hQ_16 _ ?_
            refine AW.srwK (fun Q_18 hQ_18 => ?_)
            refine RW.au fokW 4 [] ⟨[(1, .d (I part)), (4, .ptr 2 0), (5, .ptr 3 0), (8, .ptr 4 0), (36, .d (I (wr ((wr (p.Weight.High - p.Weight.Low)) + 1)))), (37, .d (I v)), (46, .clo 99 [] [.ptr 0 0, .ptr 1 0, .ptr 2 0]), (47, .agg [.d (I ((aset w1 j (wr (p.Weight.Low + v))) 0)), .d (I ((aset w1 j (wr (p.Weight.Low + v))) 1)), .d (I ((aset w1 j (wr (p.Weight.Low + v))) 2)), .d (I ((aset w1 j (wr (p.Weight.Low + v))) 3))]), (49, .d (I (wr (part + 1))))], [(3, .var 92 [.d (I ((aset w1 j (wr (p.Weight.Low + v))) 0)), .d (I ((aset w1 j (wr (p.Weight.Low + v))) 1)), .d (I ((aset w1 j (wr (p.Weight.Low + v))) 2)), .d (I ((aset w1 j (wr (p.Weight.Low + v))) 3))]), (4, .var 42 [.d (I p.Weight.Low), .d (I p.Weight.High)]), (0, .var 83 (catV (cv25 o0_StandBook) [.d (.sl 4 (List.map e92 o0_truths)), .d (I o0_lead.weight), .d (I o0_lead.along), .d (I o0_lead.high), .d (.nilMap)])), (1, .var 126 [.yld]), (2, .var 127 [.clo 99 [] [.ptr 0 0, .ptr 1 0, .ptr 2 0]])], 5, (fr_ s_4), [], 3⟩ (by kernel_rfl) ?_
            obtain ⟨⟨r0_5_1, s_8_1⟩, hx_19, h⟩ := bsome h
            refine RW.one fokW (r_callvS (zr := []) [0, 1, 2] trivial rfl (.clo _ _ _) (by kernel_rfl) rfl (ih (aset w1 j (wr (p.Weight.Low + v))) (wr (part + 1)) o0_StandBook o0_truths o0_lead s_4 _ hx_19) ⟨rfl, rfl, rfl, trivial⟩ rfl rfl ⟨.refl _, .refl _, .refl _, .refl _, .refl _, trivial⟩ rfl rfl rfl (r_end ?_))
            refine RW.au fokW 1 [] ⟨[(1, .d (I part)), (4, .ptr 2 0), (5, .ptr 3 0), (8, .ptr 4 0), (36, .d (I (wr ((wr (p.Weight.High - p.Weight.Low)) + 1)))), (37, .d (I v)), (51, .d (.bool (!r0_5_1)))], [(0, .var 83 (catV (cv25 o0_StandBook) [.d (.sl 4 (List.map e92 o0_truths)), .d (I o0_lead.weight), .d (I o0_lead.along), .d (I o0_lead.high), .d (.nilMap)])), (1, .var 126 [.yld]), (2, .var 127 [.clo 99 [] [.ptr 0 0, .ptr 1 0, .ptr 2 0]]), (3, .var 92 [.d (I ((aset w1 j (wr (p.Weight.Low + v))) 0)), .d (I ((aset w1 j (wr (p.Weight.Low + v))) 1)), .d (I ((aset w1 j (wr (p.Weight.Low + v))) 2)), .d (I ((aset w1 j (wr (p.Weight.Low + v))) 3))]), (4, .var 42 [.d (I p.Weight.Low), .d (I p.Weight.High)])], 5, (fr_ s_8_1), [], 3⟩ (by kernel_rfl) ?_
            refine RW.nil ?_
            refine hQ_18 _ ?_
            refine AW.cond rfl (fun hb_20 => ?_) (fun hb_20 => ?_)
            · have h := ifT hb_20 h
              refine AW.sa fokW [] ⟨[(7, .d (.bool false))], [(0, .var 83 (catV (cv25 o0_StandBook) [.d (.sl 4 (List.map e92 o0_truths)), .d (I o0_lead.weight), .d (I o0_lead.along), .d (I o0_lead.high), .d (.nilMap)])), (1, .var 126 [.yld]), (2, .var 127 [.clo 99 [] [.ptr 0 0, .ptr 1 0, .ptr 2 0]])], 5, (fr_ s_8_1), [], 3⟩ (by kernel_rfl) ?_
              obtain rfl := Option.some.inj h
              have e_3 := hb_12 _ rfl
              subst e_3
              obtain rfl := Aft.bk hk_12
              obtain rfl := Aft.bk hk_11
              obtain rfl := Aft.bk hk_10
              exact AW.ret (hR_0 _ (retX (.cons (.tmp rfl) .nil) (.refl _) rfl (by kernel_rfl) (by kernel_rfl)))
            · have h := ifF hb_20 h
              refine AW.skip ?_
              refine hK_15 _ ?_
              refine AW.ra fokW [] ⟨[(1, .d (I part)), (4, .ptr 2 0), (5, .ptr 3 0), (8, .ptr 4 0), (36, .d (I (wr ((wr (p.Weight.High - p.Weight.Low)) + 1)))), (37, .d (I (wr (v + 1))))], [(0, .var 83 (catV (cv25 o0_StandBook) [.d (.sl 4 (List.map e92 o0_truths)), .d (I o0_lead.weight), .d (I o0_lead.along), .d (I o0_lead.high), .d (.nilMap)])), (1, .var 126 [.yld]), (2, .var 127 [.clo 99 [] [.ptr 0 0, .ptr 1 0, .ptr 2 0]]), (3, .var 92 [.d (I ((aset w1 j (wr (p.Weight.Low + v))) 0)), .d (I ((aset w1 j (wr (p.Weight.Low + v))) 1)), .d (I ((aset w1 j (wr (p.Weight.Low + v))) 2)), .d (I ((aset w1 j (wr (p.Weight.Low + v))) 3))]), (4, .var 42 [.d (I p.Weight.Low), .d (I p.Weight.High)])], 5, (fr_ s_8_1), [], 3⟩ (by kernel_rfl) ?_
              obtain rfl := Option.some.inj h
              have ew : wr (v + 1) = v + 1 := inext (N := (wr ((wr (p.Weight.High - p.Weight.Low)) + 1))) (by omega) (by omega) (by omega)
              rw [ew]
              exact hK_12 _ _ rfl (Can.kp (by kernel_rfl))
          · obtain ⟨s_4, w1⟩ := s_12
            subst hout
            have h := Aft.nx hk_12
            refine AW.sa fokW [] ⟨[(1, .d (I part)), (4, .ptr 2 0), (5, .ptr 3 0), (8, .ptr 4 0), (36, .d (I (wr ((wr (p.Weight.High - p.Weight.Low)) + 1)))), (37, .d (I v)), (38, .d (.bool (decide (v < (wr ((wr (p.Weight.High - p.Weight.Low)) + 1))))))], [(4, .var 42 [.d (I p.Weight.Low), .d (I p.Weight.High)]), (3, .var 92 [.d (I (w1 0)), .d (I (w1 1)), .d (I (w1 2)), .d (I (w1 3))]), (0, .var 83 (catV (cv25 o0_StandBook) [.d (.sl 4 (List.map e92 o0_truths)), .d (I o0_lead.weight), .d (I o0_lead.along), .d (I o0_lead.high), .d (.nilMap)])), (1, .var 126 [.yld]), (2, .var 127 [.clo 99 [] [.ptr 0 0, .ptr 1 0, .ptr 2 0]])], 5, (fr_ s_4), [], 3⟩ (by kernel_rfl) ?_
            refine AW.seqK (fun K_21 hK_21 => ?_)
            refine AW.cond rfl (fun hb_22 => False.elim (by have := of_decide_eq_true hb_22; omega)) (fun hb_22 => ?_)
            refine AW.exit ?_
            obtain rfl := Option.some.inj h
            exact hK_11 _ _ rfl (Can.kp (by kernel_rfl))
        · subst hj_11
          have h := Aft.nx hk_11
          obtain rfl := Option.some.inj h
          exact hK_10 _ _ rfl (Can.kp (by kernel_rfl))
      · subst hj_10
        have h := Aft.nx hk_10
        refine AW.sa fokW [] ⟨[(7, .d (.bool true))], [(0, .var 83 (catV (cv25 o0_StandBook) [.d (.sl 4 (List.map e92 o0_truths)), .d (I o0_lead.weight), .d (I o0_lead.along), .d (I o0_lead.high), .d (.nilMap)])), (1, .var 126 [.yld]), (2, .var 127 [.clo 99 [] [.ptr 0 0, .ptr 1 0, .ptr 2 0]])], 3, (fr_ s_2), [], 3⟩ (by kernel_rfl) ?_
        obtain rfl := Option.some.inj h
        exact AW.ret (hR_0 _ (retX (.cons (.tmp rfl) .nil) (.refl _) rfl (by kernel_rfl) (by kernel_rfl)))
def g98a {S_ : Type} (c_ : (Nat → Int) → S_ → Option (S_ × Bool)) (o0_StandBook : StandBook) (o0_truths : (List (Nat → Int))) (o0_lead : Stand_load) (s_ : S_) : Option S_ := (g100).bind fun r0 => (g99a c_ 1000 r0 0 o0_StandBook o0_truths o0_lead s_).bind fun (r0_5, s_8) => some s_8
theorem k98a {S_ : Type} (fr_ : S_ → Fr) (c_ : (Nat → Int) → S_ → Option (S_ × Bool)) (hc_ : ∀ (a0 : (Nat → Int)) s s2 b, c_ a0 s = some (s2, b) → YCall Tryd.prog Gs (fr_ s) [.agg [.d (I (a0 0)), .d (I (a0 1)), .d (I (a0 2)), .d (I (a0 3))]] (.d (.bool b)) (fr_ s2)) (o0_StandBook : StandBook) (o0_truths : (List (Nat → Int))) (o0_lead : Stand_load) (s_ : S_) (r : S_) (h : g98a c_ o0_StandBook o0_truths o0_lead s_ = some r) : SCall Tryd.prog Gs 98 [.yld, .ptr 0 0] [(0, .var 83 (catV (cv25 o0_StandBook) [.d (.sl 4 (List.map e92 o0_truths)), .d (I o0_lead.weight), .d (I o0_lead.along), .d (I o0_lead.high), .d (.nilMap)]))] 1 (fr_ s_) (.tup []) [(0, .var 83 (catV (cv25 o0_StandBook) [.d (.sl 4 (List.map e92 o0_truths)), .d (I o0_lead.weight), .d (I o0_lead.along), .d (I o0_lead.high), .d (.nilMap)]))] 1 (fr_ r) := by
  unfold g98a at h
  refine SCall.mkK Tryd.func98 c98 rfl rfl (by kernel_rfl) (fun Q_0 hR_0 hN_0 => ?_)
  refine AW.sa fokW [] ⟨[(1, .ptr 0 0), (2, .ptr 1 0)], [(1, .var 126 [.yld]), (0, .var 83 (catV (cv25 o0_StandBook) [.d (.sl 4 (List.map e92 o0_truths)), .d (I o0_lead.weight), .d (I o0_lead.along), .d (I o0_lead.high), .d (.nilMap)]))], 2, (fr_ s_), [], 1⟩ (by kernel_rfl) ?_
  refine AW.sa fokW [] ⟨[(1, .ptr 0 0), (2, .ptr 1 0), (3, .ptr 2 0)], [(2, .var 127 [.d (.nilFn)]), (1, .var 126 [.yld]), (0, .var 83 (catV (cv25 o0_StandBook) [.d (.sl 4 (List.map e92 o0_truths)), .d (I o0_lead.weight), .d (I o0_lead.along), .d (I o0_lead.high), .d (.nilMap)]))], 3, (fr_ s_), [], 1⟩ (by kernel_rfl) ?_
  refine AW.sa fokW [] ⟨[(3, .ptr 2 0)], [(2, .var 127 [.clo 99 [] [.ptr 0 0, .ptr 1 0, .ptr 2 0]]), (1, .var 126 [.yld]), (0, .var 83 (catV (cv25 o0_StandBook) [.d (.sl 4 (List.map e92 o0_truths)), .d (I o0_lead.weight), .d (I o0_lead.along), .d (I o0_lead.high), .d (.nilMap)]))], 3, (fr_ s_), [], 1⟩ (by kernel_rfl) ?_
  refine AW.drw fokW ?_
  refine RunC.auX 1 ⟨[(5, .clo 99 [] [.ptr 0 0, .ptr 1 0, .ptr 2 0])], [(2, .var 127 [.clo 99 [] [.ptr 0 0, .ptr 1 0, .ptr 2 0]]), (1, .var 126 [.yld]), (0, .var 83 (catV (cv25 o0_StandBook) [.d (.sl 4 (List.map e92 o0_truths)), .d (I o0_lead.weight), .d (I o0_lead.along), .d (I o0_lead.high), .d (.nilMap)]))], 3, (fr_ s_), [], 1⟩ (by kernel_rfl) ?_
  obtain ⟨r0, hx_2, h⟩ := bsome h
  refine r_call trivial rfl (k100 _ hx_2) rfl rfl ?_
  obtain ⟨⟨r0_5, s_8⟩, hx_3, h⟩ := bsome h
  refine r_callvS (zr := []) [0, 1, 2] trivial rfl (.clo _ _ _) (by kernel_rfl) rfl (k99a fr_ c_ hc_ 1000 r0 0 o0_StandBook o0_truths o0_lead s_ _ hx_3) ⟨rfl, rfl, rfl, trivial⟩ rfl rfl ⟨.refl _, .refl _, .refl _, .refl _, .refl _, trivial⟩ rfl rfl rfl ?_
  refine RunC.fin ⟨[], [(0, .var 83 (catV (cv25 o0_StandBook) [.d (.sl 4 (List.map e92 o0_truths)), .d (I o0_lead.weight), .d (I o0_lead.along), .d (I o0_lead.high), .d (.nilMap)]))], 3, (fr_ s_8), [], 1⟩ (by kernel_rfl) (by kernel_rfl) ?_
  obtain rfl := Option.some.inj h
  exact hN_0 _ (retX .nil (.refl _) rfl (by kernel_rfl) (by kernel_rfl))
def g95a_3 (w : (Nat → Int)) : Int → StandPart → (Int × Int × Int) → Option (Int × Int × Int) := fun v p (weight, along, high) => (ixN 4 v).bind fun j => (ixN 4 v).bind fun j1 => (ixN 4 v).bind fun j2 => some ((wr (weight + (w j))), (wr (along + (wr ((w j1) * p.Along)))), (wr (high + (wr ((w j2) * p.High)))))
def g95a (b_StandBook : StandBook) (b_truths : (List (Nat → Int))) (b_lead : Stand_load) (w : (Nat → Int)) (c : Stand_child) : Option Stand_load := (eachS (g95a_3 w) b_StandBook.Parts 0 ((wr (b_lead.weight + c.weight)), (wr (b_lead.along + (wr (c.weight * (wr (b_StandBook.Along + c.lean)))))), (wr (b_lead.high + (wr (c.weight * b_StandBook.High)))))).bind fun (weight, along, high) => some (Stand_load.mk weight along high)
theorem k95a (b_StandBook : StandBook) (b_truths : (List (Nat → Int))) (b_lead : Stand_load) (w : (Nat → Int)) (c : Stand_child) (r : Stand_load) (h : g95a b_StandBook b_truths b_lead w c = some r) : SCall Tryd.prog Gs 95 [.agg [.d (I b_StandBook.Kind), .d (I b_StandBook.Front), .d (I b_StandBook.Back), .d (I b_StandBook.Radius), .d (.sl 4 (List.map e70 b_StandBook.Parts)), .d (I b_StandBook.Along), .d (I b_StandBook.High), .d (I b_StandBook.Lean_), .d (I b_StandBook.Limit), .d (.sl 3 (List.map e65 b_StandBook.Trials)), .d (.sl 4 (List.map e92 b_truths)), .d (I b_lead.weight), .d (I b_lead.along), .d (I b_lead.high), .d (.nilMap)], .agg [.d (I (w 0)), .d (I (w 1)), .d (I (w 2)), .d (I (w 3))], .agg [.d (I c.weight), .d (I c.lean)]] [] 0 Fr.emp (.agg [.d (I r.weight), .d (I r.along), .d (I r.high)]) [] 0 Fr.emp := by
  unfold g95a at h
  refine SCall.mkK Tryd.func95 c95 rfl rfl (by kernel_rfl) (fun Q_0 hR_0 hN_0 => ?_)
  refine AW.sa fokW [] ⟨[(3, .ptr 0 0), (4, .ptr 1 0), (5, .ptr 2 0), (6, .ptr 3 0)], [(3, .var 80 [.d (I 0), .d (I 0), .d (I 0)]), (2, .var 94 [.d (I c.weight), .d (I c.lean)]), (1, .var 92 [.d (I (w 0)), .d (I (w 1)), .d (I (w 2)), .d (I (w 3))]), (0, .var 83 (catV (cv25 b_StandBook) [.d (.sl 4 (List.map e92 b_truths)), .d (I b_lead.weight), .d (I b_lead.along), .d (I b_lead.high), .d (.nilMap)]))], 4, Fr.emp, [], 0⟩ (by kernel_rfl) ?_
  refine AW.sa fokW [] ⟨[(3, .ptr 0 0), (4, .ptr 1 0), (5, .ptr 2 0), (6, .ptr 3 0), (7, .ptr 4 0)], [(4, .var 80 [.d (I b_lead.weight), .d (I b_lead.along), .d (I b_lead.high)]), (3, .var 80 [.d (I 0), .d (I 0), .d (I 0)]), (2, .var 94 [.d (I c.weight), .d (I c.lean)]), (1, .var 92 [.d (I (w 0)), .d (I (w 1)), .d (I (w 2)), .d (I (w 3))]), (0, .var 83 (catV (cv25 b_StandBook) [.d (.sl 4 (List.map e92 b_truths)), .d (I b_lead.weight), .d (I b_lead.along), .d (I b_lead.high), .d (.nilMap)]))], 5, Fr.emp, [], 0⟩ (by kernel_rfl) ?_
  refine AW.sa fokW [] ⟨[(3, .ptr 0 0), (4, .ptr 1 0), (5, .ptr 2 0), (6, .ptr 3 0), (7, .ptr 4 0)], [(4, .var 80 [.d (I (wr (b_lead.weight + c.weight))), .d (I b_lead.along), .d (I b_lead.high)]), (3, .var 80 [.d (I 0), .d (I 0), .d (I 0)]), (2, .var 94 [.d (I c.weight), .d (I c.lean)]), (1, .var 92 [.d (I (w 0)), .d (I (w 1)), .d (I (w 2)), .d (I (w 3))]), (0, .var 83 (catV (cv25 b_StandBook) [.d (.sl 4 (List.map e92 b_truths)), .d (I b_lead.weight), .d (I b_lead.along), .d (I b_lead.high), .d (.nilMap)]))], 5, Fr.emp, [], 0⟩ (by kernel_rfl) ?_
  refine AW.sa fokW [] ⟨[(3, .ptr 0 0), (4, .ptr 1 0), (5, .ptr 2 0), (6, .ptr 3 0), (7, .ptr 4 0)], [(4, .var 80 [.d (I (wr (b_lead.weight + c.weight))), .d (I (wr (b_lead.along + (wr (c.weight * (wr (b_StandBook.Along + c.lean))))))), .d (I b_lead.high)]), (3, .var 80 [.d (I 0), .d (I 0), .d (I 0)]), (2, .var 94 [.d (I c.weight), .d (I c.lean)]), (1, .var 92 [.d (I (w 0)), .d (I (w 1)), .d (I (w 2)), .d (I (w 3))]), (0, .var 83 (catV (cv25 b_StandBook) [.d (.sl 4 (List.map e92 b_truths)), .d (I b_lead.weight), .d (I b_lead.along), .d (I b_lead.high), .d (.nilMap)]))], 5, Fr.emp, [], 0⟩ (by kernel_rfl) ?_
  refine AW.sa fokW [] ⟨[(3, .ptr 0 0), (4, .ptr 1 0), (6, .ptr 3 0), (7, .ptr 4 0)], [(4, .var 80 [.d (I (wr (b_lead.weight + c.weight))), .d (I (wr (b_lead.along + (wr (c.weight * (wr (b_StandBook.Along + c.lean))))))), .d (I (wr (b_lead.high + (wr (c.weight * b_StandBook.High)))))]), (3, .var 80 [.d (I 0), .d (I 0), .d (I 0)]), (1, .var 92 [.d (I (w 0)), .d (I (w 1)), .d (I (w 2)), .d (I (w 3))]), (0, .var 83 (catV (cv25 b_StandBook) [.d (.sl 4 (List.map e92 b_truths)), .d (I b_lead.weight), .d (I b_lead.along), .d (I b_lead.high), .d (.nilMap)]))], 5, Fr.emp, [], 0⟩ (by kernel_rfl) ?_
  refine AW.seqK (fun K_1 hK_1 => ?_)
  refine AW.srwK (fun Q_2 hQ_2 => ?_)
  refine RW.au fokW 3 [] ⟨[(4, .ptr 1 0), (6, .ptr 3 0), (7, .ptr 4 0), (43, .d (.sl 4 (List.map e70 b_StandBook.Parts)))], [(4, .var 80 [.d (I (wr (b_lead.weight + c.weight))), .d (I (wr (b_lead.along + (wr (c.weight * (wr (b_StandBook.Along + c.lean))))))), .d (I (wr (b_lead.high + (wr (c.weight * b_StandBook.High)))))]), (3, .var 80 [.d (I 0), .d (I 0), .d (I 0)]), (1, .var 92 [.d (I (w 0)), .d (I (w 1)), .d (I (w 2)), .d (I (w 3))])], 5, Fr.emp, [], 0⟩ (by kernel_rfl) ?_
  refine RW.one fokW (r_lenX trivial rfl lenm (r_end ?_))
  refine RW.au fokW 1 [] ⟨[(4, .ptr 1 0), (6, .ptr 3 0), (7, .ptr 4 0), (43, .d (.sl 4 (List.map e70 b_StandBook.Parts))), (44, .d (I (b_StandBook.Parts.length : Int))), (45, .d (I 0))], [(4, .var 80 [.d (I (wr (b_lead.weight + c.weight))), .d (I (wr (b_lead.along + (wr (c.weight * (wr (b_StandBook.Along + c.lean))))))), .d (I (wr (b_lead.high + (wr (c.weight * b_StandBook.High)))))]), (3, .var 80 [.d (I 0), .d (I 0), .d (I 0)]), (1, .var 92 [.d (I (w 0)), .d (I (w 1)), .d (I (w 2)), .d (I (w 3))])], 5, Fr.emp, [], 0⟩ (by kernel_rfl) ?_
  refine RW.nil ?_
  refine hQ_2 _ ?_
  refine AW.block ?_
  refine AW.sln (t := 43) rfl (fun hN_3 => ?_)
  rw [List.length_map] at hN_3
  obtain ⟨out_3, hx_3, h⟩ := bsome h
  refine AW.evSK (fun (v : Int) (⟨weight, along, high⟩ : Int × Int × Int) => ⟨[(4, .ptr 1 0), (6, .ptr 3 0), (7, .ptr 4 0), (43, .d (.sl 4 (List.map e70 b_StandBook.Parts))), (44, .d (I (b_StandBook.Parts.length : Int))), (45, .d (I v))], [(4, .var 80 [.d (I weight), .d (I along), .d (I high)]), (3, .var 80 [.d (I 0), .d (I 0), .d (I 0)]), (1, .var 92 [.d (I (w 0)), .d (I (w 1)), .d (I (w 2)), .d (I (w 3))])], 5, Fr.emp, [], 0⟩) (g95a_3 w) hx_3 (Can.kp (by kernel_rfl)) (fun v p s_3 hi_3 hl_3 hp_3 c_3 h K_3 hK_3 => ?_) (fun v s_3 hi_3 hl_3 hout => ?_)
  · obtain ⟨weight, along, high⟩ := s_3
    unfold g95a_3 at h
    refine AW.sa fokW [] ⟨[(4, .ptr 1 0), (6, .ptr 3 0), (7, .ptr 4 0), (43, .d (.sl 4 (List.map e70 b_StandBook.Parts))), (44, .d (I (b_StandBook.Parts.length : Int))), (45, .d (I v)), (46, .d (.bool (decide (v < (b_StandBook.Parts.length : Int)))))], [(4, .var 80 [.d (I weight), .d (I along), .d (I high)]), (3, .var 80 [.d (I 0), .d (I 0), .d (I 0)]), (1, .var 92 [.d (I (w 0)), .d (I (w 1)), .d (I (w 2)), .d (I (w 3))])], 5, Fr.emp, [], 0⟩ (by kernel_rfl) ?_
    refine AW.seqK (fun K_4 hK_4 => ?_)
    refine AW.cond rfl (fun hb_5 => ?_) (fun hb_5 => False.elim (by have := of_decide_eq_false hb_5; omega))
    refine AW.skip ?_
    refine hK_4 _ ?_
    refine AW.seqK (fun K_6 hK_6 => ?_)
    refine AW.block ?_
    refine AW.srwK (fun Q_7 hQ_7 => ?_)
    refine RW.au fokW 1 [] ⟨[(4, .ptr 1 0), (6, .ptr 3 0), (7, .ptr 4 0), (43, .d (.sl 4 (List.map e70 b_StandBook.Parts))), (44, .d (I (b_StandBook.Parts.length : Int))), (45, .d (I v)), (47, .d (I v))], [(4, .var 80 [.d (I weight), .d (I along), .d (I high)]), (3, .var 80 [.d (I 0), .d (I 0), .d (I 0)]), (1, .var 92 [.d (I (w 0)), .d (I (w 1)), .d (I (w 2)), .d (I (w 3))])], 5, Fr.emp, [], 0⟩ (by kernel_rfl) ?_
    refine RW.one fokW (r_iaD trivial rfl rfl hi_3 (row := e70 p) (mapget hp_3) (r_end ?_))
    refine RW.au fokW 4 [] ⟨[(4, .ptr 1 0), (6, .ptr 3 0), (7, .ptr 4 0), (8, .d (I v)), (9, .ptr 5 0), (43, .d (.sl 4 (List.map e70 b_StandBook.Parts))), (44, .d (I (b_StandBook.Parts.length : Int))), (45, .d (I v))], [(5, .var 70 (cv70 p)), (4, .var 80 [.d (I weight), .d (I along), .d (I high)]), (3, .var 80 [.d (I 0), .d (I 0), .d (I 0)]), (1, .var 92 [.d (I (w 0)), .d (I (w 1)), .d (I (w 2)), .d (I (w 3))])], 6, Fr.emp, [], 0⟩ (by kernel_rfl) ?_
    refine RW.nil ?_
    refine hQ_7 _ ?_
    refine AW.sdrwK fokW (fun Q_8 hQ_8 => ?_)
    refine RunC.auX 3 ⟨[(4, .ptr 1 0), (6, .ptr 3 0), (7, .ptr 4 0), (8, .d (I v)), (9, .ptr 5 0), (43, .d (.sl 4 (List.map e70 b_StandBook.Parts))), (44, .d (I (b_StandBook.Parts.length : Int))), (45, .d (I v)), (51, .d (I weight)), (52, .d (I v))], [(5, .var 70 (cv70 p)), (4, .var 80 [.d (I weight), .d (I along), .d (I high)]), (3, .var 80 [.d (I 0), .d (I 0), .d (I 0)]), (1, .var 92 [.d (I (w 0)), .d (I (w 1)), .d (I (w 2)), .d (I (w 3))])], 6, Fr.emp, [], 0⟩ (by kernel_rfl) ?_
    obtain ⟨j, hv_9, h⟩ := bsome h
    refine r_iaV trivial rfl rfl rfl (ixN_ok hv_9).1 (ixN_ok hv_9).2.1 ?_
    refine r_loadV trivial rfl rfl (u := .d (I (w j))) (agt (f := fun k => .d (I (w k))) hv_9) ?_
    refine RunC.auX 3 ⟨[(4, .ptr 1 0), (6, .ptr 3 0), (7, .ptr 4 0), (8, .d (I v)), (9, .ptr 5 0), (43, .d (.sl 4 (List.map e70 b_StandBook.Parts))), (44, .d (I (b_StandBook.Parts.length : Int))), (45, .d (I v))], [(4, .var 80 [.d (I (wr (weight + (w j)))), .d (I along), .d (I high)]), (5, .var 70 (cv70 p)), (3, .var 80 [.d (I 0), .d (I 0), .d (I 0)]), (1, .var 92 [.d (I (w 0)), .d (I (w 1)), .d (I (w 2)), .d (I (w 3))])], 6, Fr.emp, [], 0⟩ (by kernel_rfl) ?_
    refine RunC.fin ⟨[(4, .ptr 1 0), (6, .ptr 3 0), (7, .ptr 4 0), (8, .d (I v)), (9, .ptr 5 0), (43, .d (.sl 4 (List.map e70 b_StandBook.Parts))), (44, .d (I (b_StandBook.Parts.length : Int))), (45, .d (I v))], [(4, .var 80 [.d (I (wr (weight + (w j)))), .d (I along), .d (I high)]), (5, .var 70 (cv70 p)), (3, .var 80 [.d (I 0), .d (I 0), .d (I 0)]), (1, .var 92 [.d (I (w 0)), .d (I (w 1)), .d (I (w 2)), .d (I (w 3))])], 6, Fr.emp, [], 0⟩ (by kernel_rfl) (by kernel_rfl) ?_
    refine hQ_8 _ ?_
    refine AW.sdrwK fokW (fun Q_10 hQ_10 => ?_)
    refine RunC.auX 3 ⟨[(4, .ptr 1 0), (6, .ptr 3 0), (7, .ptr 4 0), (8, .d (I v)), (9, .ptr 5 0), (43, .d (.sl 4 (List.map e70 b_StandBook.Parts))), (44, .d (I (b_StandBook.Parts.length : Int))), (45, .d (I v)), (58, .d (I along)), (59, .d (I v))], [(4, .var 80 [.d (I (wr (weight + (w j)))), .d (I along), .d (I high)]), (5, .var 70 (cv70 p)), (3, .var 80 [.d (I 0), .d (I 0), .d (I 0)]), (1, .var 92 [.d (I (w 0)), .d (I (w 1)), .d (I (w 2)), .d (I (w 3))])], 6, Fr.emp, [], 0⟩ (by kernel_rfl) ?_
    obtain ⟨j1, hv_11, h⟩ := bsome h
    refine r_iaV trivial rfl rfl rfl (ixN_ok hv_11).1 (ixN_ok hv_11).2.1 ?_
    refine r_loadV trivial rfl rfl (u := .d (I (w j1))) (agt (f := fun k => .d (I (w k))) hv_11) ?_
    refine RunC.auX 6 ⟨[(4, .ptr 1 0), (6, .ptr 3 0), (7, .ptr 4 0), (8, .d (I v)), (9, .ptr 5 0), (43, .d (.sl 4 (List.map e70 b_StandBook.Parts))), (44, .d (I (b_StandBook.Parts.length : Int))), (45, .d (I v))], [(4, .var 80 [.d (I (wr (weight + (w j)))), .d (I (wr (along + (wr ((w j1) * p.Along))))), .d (I high)]), (5, .var 70 (cv70 p)), (3, .var 80 [.d (I 0), .d (I 0), .d (I 0)]), (1, .var 92 [.d (I (w 0)), .d (I (w 1)), .d (I (w 2)), .d (I (w 3))])], 6, Fr.emp, [], 0⟩ (by kernel_rfl) ?_
    refine RunC.fin ⟨[(4, .ptr 1 0), (6, .ptr 3 0), (7, .ptr 4 0), (8, .d (I v)), (9, .ptr 5 0), (43, .d (.sl 4 (List.map e70 b_StandBook.Parts))), (44, .d (I (b_StandBook.Parts.length : Int))), (45, .d (I v))], [(4, .var 80 [.d (I (wr (weight + (w j)))), .d (I (wr (along + (wr ((w j1) * p.Along))))), .d (I high)]), (5, .var 70 (cv70 p)), (3, .var 80 [.d (I 0), .d (I 0), .d (I 0)]), (1, .var 92 [.d (I (w 0)), .d (I (w 1)), .d (I (w 2)), .d (I (w 3))])], 6, Fr.emp, [], 0⟩ (by kernel_rfl) (by kernel_rfl) ?_
    refine hQ_10 _ ?_
    refine AW.drw fokW ?_
    refine RunC.auX 3 ⟨[(4, .ptr 1 0), (6, .ptr 3 0), (7, .ptr 4 0), (9, .ptr 5 0), (43, .d (.sl 4 (List.map e70 b_StandBook.Parts))), (44, .d (I (b_StandBook.Parts.length : Int))), (45, .d (I v)), (68, .d (I high)), (69, .d (I v))], [(4, .var 80 [.d (I (wr (weight + (w j)))), .d (I (wr (along + (wr ((w j1) * p.Along))))), .d (I high)]), (5, .var 70 (cv70 p)), (3, .var 80 [.d (I 0), .d (I 0), .d (I 0)]), (1, .var 92 [.d (I (w 0)), .d (I (w 1)), .d (I (w 2)), .d (I (w 3))])], 6, Fr.emp, [], 0⟩ (by kernel_rfl) ?_
    obtain ⟨j2, hv_13, h⟩ := bsome h
    refine r_iaV trivial rfl rfl rfl (ixN_ok hv_13).1 (ixN_ok hv_13).2.1 ?_
    refine r_loadV trivial rfl rfl (u := .d (I (w j2))) (agt (f := fun k => .d (I (w k))) hv_13) ?_
    refine RunC.auX 6 ⟨[(4, .ptr 1 0), (6, .ptr 3 0), (7, .ptr 4 0), (43, .d (.sl 4 (List.map e70 b_StandBook.Parts))), (44, .d (I (b_StandBook.Parts.length : Int))), (45, .d (I v))], [(4, .var 80 [.d (I (wr (weight + (w j)))), .d (I (wr (along + (wr ((w j1) * p.Along))))), .d (I (wr (high + (wr ((w j2) * p.High)))))]), (5, .var 70 (cv70 p)), (3, .var 80 [.d (I 0), .d (I 0), .d (I 0)]), (1, .var 92 [.d (I (w 0)), .d (I (w 1)), .d (I (w 2)), .d (I (w 3))])], 6, Fr.emp, [], 0⟩ (by kernel_rfl) ?_
    refine RunC.fin ⟨[(4, .ptr 1 0), (6, .ptr 3 0), (7, .ptr 4 0), (43, .d (.sl 4 (List.map e70 b_StandBook.Parts))), (44, .d (I (b_StandBook.Parts.length : Int))), (45, .d (I v))], [(4, .var 80 [.d (I (wr (weight + (w j)))), .d (I (wr (along + (wr ((w j1) * p.Along))))), .d (I (wr (high + (wr ((w j2) * p.High)))))]), (3, .var 80 [.d (I 0), .d (I 0), .d (I 0)]), (1, .var 92 [.d (I (w 0)), .d (I (w 1)), .d (I (w 2)), .d (I (w 3))])], 6, Fr.emp, [], 0⟩ (by kernel_rfl) (by kernel_rfl) ?_
    refine hK_6 _ ?_
    refine AW.ra fokW [] ⟨[(4, .ptr 1 0), (6, .ptr 3 0), (7, .ptr 4 0), (43, .d (.sl 4 (List.map e70 b_StandBook.Parts))), (44, .d (I (b_StandBook.Parts.length : Int))), (45, .d (I (wr (v + 1))))], [(4, .var 80 [.d (I (wr (weight + (w j)))), .d (I (wr (along + (wr ((w j1) * p.Along))))), .d (I (wr (high + (wr ((w j2) * p.High)))))]), (3, .var 80 [.d (I 0), .d (I 0), .d (I 0)]), (1, .var 92 [.d (I (w 0)), .d (I (w 1)), .d (I (w 2)), .d (I (w 3))])], 6, Fr.emp, [], 0⟩ (by kernel_rfl) ?_
    obtain rfl := Option.some.inj h
    have ew : wr (v + 1) = v + 1 := inext (N := (b_StandBook.Parts.length : Int)) (by omega) (by omega) (by omega)
    rw [ew]
    exact hK_3 _ (Can.kp (by kernel_rfl))
  · obtain ⟨weight, along, high⟩ := s_3
    subst hout
    refine AW.sa fokW [] ⟨[(4, .ptr 1 0), (6, .ptr 3 0), (7, .ptr 4 0), (43, .d (.sl 4 (List.map e70 b_StandBook.Parts))), (44, .d (I (b_StandBook.Parts.length : Int))), (45, .d (I v)), (46, .d (.bool (decide (v < (b_StandBook.Parts.length : Int)))))], [(4, .var 80 [.d (I weight), .d (I along), .d (I high)]), (3, .var 80 [.d (I 0), .d (I 0), .d (I 0)]), (1, .var 92 [.d (I (w 0)), .d (I (w 1)), .d (I (w 2)), .d (I (w 3))])], 5, Fr.emp, [], 0⟩ (by kernel_rfl) ?_
    refine AW.seqK (fun K_14 hK_14 => ?_)
    refine AW.cond rfl (fun hb_15 => False.elim (by have := of_decide_eq_true hb_15; omega)) (fun hb_15 => ?_)
    refine AW.exit ?_
    refine hK_1 _ ?_
    refine AW.sa fokW [] ⟨[(6, .ptr 3 0)], [(3, .var 80 [.d (I weight), .d (I along), .d (I high)])], 5, Fr.emp, [], 0⟩ (by kernel_rfl) ?_
    obtain rfl := Option.some.inj h
    exact AW.ret (hR_0 _ (retX (.cons (.agg rfl rfl (Nat.le_of_ble_eq_true rfl)) .nil) (.refl _) rfl (by kernel_rfl) (by kernel_rfl)))
def g121a (b_StandBook : StandBook) (b_truths : (List (Nat → Int))) (b_lead : Stand_load) (l : Stand_load) : Option Int := (g123 (wr ((wr (b_StandBook.Back * l.weight)) + l.along)) [(wr ((wr (b_StandBook.Front * l.weight)) - l.along))]).bind fun r0 => some r0
theorem k121a (b_StandBook : StandBook) (b_truths : (List (Nat → Int))) (b_lead : Stand_load) (l : Stand_load) (r : Int) (h : g121a b_StandBook b_truths b_lead l = some r) : SCall Tryd.prog Gs 121 [.agg [.d (I b_StandBook.Kind), .d (I b_StandBook.Front), .d (I b_StandBook.Back), .d (I b_StandBook.Radius), .d (.sl 4 (List.map e70 b_StandBook.Parts)), .d (I b_StandBook.Along), .d (I b_StandBook.High), .d (I b_StandBook.Lean_), .d (I b_StandBook.Limit), .d (.sl 3 (List.map e65 b_StandBook.Trials)), .d (.sl 4 (List.map e92 b_truths)), .d (I b_lead.weight), .d (I b_lead.along), .d (I b_lead.high), .d (.nilMap)], .agg [.d (I l.weight), .d (I l.along), .d (I l.high)]] [] 0 Fr.emp (.d (I r)) [] 0 Fr.emp := by
  unfold g121a at h
  refine SCall.mkK Tryd.func121 c121 rfl rfl (by kernel_rfl) (fun Q_0 hR_0 hN_0 => ?_)
  refine AW.sa fokW [] ⟨[(2, .ptr 0 0), (3, .ptr 1 0)], [(1, .var 80 [.d (I l.weight), .d (I l.along), .d (I l.high)]), (0, .var 83 (catV (cv25 b_StandBook) [.d (.sl 4 (List.map e92 b_truths)), .d (I b_lead.weight), .d (I b_lead.along), .d (I b_lead.high), .d (.nilMap)]))], 2, Fr.emp, [], 0⟩ (by kernel_rfl) ?_
  refine AW.srwK (fun Q_1 hQ_1 => ?_)
  refine RW.au fokW 19 [] ⟨[(13, .d (I (wr ((wr (b_StandBook.Back * l.weight)) + l.along)))), (23, .own 2 (List.map e3 [(wr ((wr (b_StandBook.Front * l.weight)) - l.along))]).length)], [(2, .row 3 1 (List.map e3 [(wr ((wr (b_StandBook.Front * l.weight)) - l.along))]))], 3, Fr.emp, [], 0⟩ (by kernel_rfl) ?_
  obtain ⟨r0, hx_2, h⟩ := bsome h
  refine RW.one fokW (r_callF (rs := [(2, .row 3 1 (List.map e3 [(wr ((wr (b_StandBook.Front * l.weight)) - l.along))]))]) trivial rfl (k123 (wr ((wr (b_StandBook.Back * l.weight)) + l.along)) [(wr ((wr (b_StandBook.Front * l.weight)) - l.along))] _ hx_2) ⟨rfl, trivial⟩ ⟨.refl _, (.own rfl rfl), trivial⟩ rfl rfl rfl (r_end ?_))
  refine RW.au fokW 1 [] ⟨[(4, .d (I r0))], [], 3, Fr.emp, [], 0⟩ (by kernel_rfl) ?_
  refine RW.nil ?_
  refine hQ_1 _ ?_
  obtain rfl := Option.some.inj h
  exact AW.ret (hR_0 _ (retX (.cons (.tmp rfl) .nil) (.refl _) rfl (by kernel_rfl) (by kernel_rfl)))
def g122a (b_StandBook : StandBook) (b_truths : (List (Nat → Int))) (b_lead : Stand_load) (l : Stand_load) : Option Int := (g123 (wr ((wr (b_StandBook.Back * (wr ((wr (b_StandBook.Radius * l.weight)) - l.high)))) + (wr (b_StandBook.Radius * l.along)))) [(wr ((wr (b_StandBook.Front * (wr ((wr (b_StandBook.Radius * l.weight)) - l.high)))) - (wr (b_StandBook.Radius * l.along))))]).bind fun r0 => some r0
theorem k122a (b_StandBook : StandBook) (b_truths : (List (Nat → Int))) (b_lead : Stand_load) (l : Stand_load) (r : Int) (h : g122a b_StandBook b_truths b_lead l = some r) : SCall Tryd.prog Gs 122 [.agg [.d (I b_StandBook.Kind), .d (I b_StandBook.Front), .d (I b_StandBook.Back), .d (I b_StandBook.Radius), .d (.sl 4 (List.map e70 b_StandBook.Parts)), .d (I b_StandBook.Along), .d (I b_StandBook.High), .d (I b_StandBook.Lean_), .d (I b_StandBook.Limit), .d (.sl 3 (List.map e65 b_StandBook.Trials)), .d (.sl 4 (List.map e92 b_truths)), .d (I b_lead.weight), .d (I b_lead.along), .d (I b_lead.high), .d (.nilMap)], .agg [.d (I l.weight), .d (I l.along), .d (I l.high)]] [] 0 Fr.emp (.d (I r)) [] 0 Fr.emp := by
  unfold g122a at h
  refine SCall.mkK Tryd.func122 c122 rfl rfl (by kernel_rfl) (fun Q_0 hR_0 hN_0 => ?_)
  refine AW.sa fokW [] ⟨[(2, .ptr 0 0), (3, .ptr 1 0)], [(1, .var 80 [.d (I l.weight), .d (I l.along), .d (I l.high)]), (0, .var 83 (catV (cv25 b_StandBook) [.d (.sl 4 (List.map e92 b_truths)), .d (I b_lead.weight), .d (I b_lead.along), .d (I b_lead.high), .d (.nilMap)]))], 2, Fr.emp, [], 0⟩ (by kernel_rfl) ?_
  refine AW.sa fokW [] ⟨[(2, .ptr 0 0), (3, .ptr 1 0), (5, .d (I (wr ((wr (b_StandBook.Radius * l.weight)) - l.high))))], [(1, .var 80 [.d (I l.weight), .d (I l.along), .d (I l.high)]), (0, .var 83 (catV (cv25 b_StandBook) [.d (.sl 4 (List.map e92 b_truths)), .d (I b_lead.weight), .d (I b_lead.along), .d (I b_lead.high), .d (.nilMap)]))], 2, Fr.emp, [], 0⟩ (by kernel_rfl) ?_
  refine AW.srwK (fun Q_1 hQ_1 => ?_)
  refine RW.au fokW 25 [] ⟨[(26, .d (I (wr ((wr (b_StandBook.Back * (wr ((wr (b_StandBook.Radius * l.weight)) - l.high)))) + (wr (b_StandBook.Radius * l.along)))))), (39, .own 2 (List.map e3 [(wr ((wr (b_StandBook.Front * (wr ((wr (b_StandBook.Radius * l.weight)) - l.high)))) - (wr (b_StandBook.Radius * l.along))))]).length)], [(2, .row 3 1 (List.map e3 [(wr ((wr (b_StandBook.Front * (wr ((wr (b_StandBook.Radius * l.weight)) - l.high)))) - (wr (b_StandBook.Radius * l.along))))]))], 3, Fr.emp, [], 0⟩ (by kernel_rfl) ?_
  obtain ⟨r0, hx_2, h⟩ := bsome h
  refine RW.one fokW (r_callF (rs := [(2, .row 3 1 (List.map e3 [(wr ((wr (b_StandBook.Front * (wr ((wr (b_StandBook.Radius * l.weight)) - l.high)))) - (wr (b_StandBook.Radius * l.along))))]))]) trivial rfl (k123 (wr ((wr (b_StandBook.Back * (wr ((wr (b_StandBook.Radius * l.weight)) - l.high)))) + (wr (b_StandBook.Radius * l.along)))) [(wr ((wr (b_StandBook.Front * (wr ((wr (b_StandBook.Radius * l.weight)) - l.high)))) - (wr (b_StandBook.Radius * l.along))))] _ hx_2) ⟨rfl, trivial⟩ ⟨.refl _, (.own rfl rfl), trivial⟩ rfl rfl rfl (r_end ?_))
  refine RW.au fokW 1 [] ⟨[(4, .d (I r0))], [], 3, Fr.emp, [], 0⟩ (by kernel_rfl) ?_
  refine RW.nil ?_
  refine hQ_1 _ ?_
  obtain rfl := Option.some.inj h
  exact AW.ret (hR_0 _ (retX (.cons (.tmp rfl) .nil) (.refl _) rfl (by kernel_rfl) (by kernel_rfl)))
def g70a (b_StandBook : StandBook) (b_truths : (List (Nat → Int))) (b_lead : Stand_load) (w : (Nat → Int)) (c : Stand_child) : Option Bool := (ixN 2 b_StandBook.Kind).bind fun j => match j with | 0 => (g95a b_StandBook b_truths b_lead w c).bind fun r0 => (g121a b_StandBook b_truths b_lead r0).bind fun r0_1 => some (decide (r0_1 < 0)) | 1 => (g95a b_StandBook b_truths b_lead w c).bind fun r0_2 => (g122a b_StandBook b_truths b_lead r0_2).bind fun r0_1_1 => some (decide (r0_1_1 < 0)) | _ => none
theorem k70a (b_StandBook : StandBook) (b_truths : (List (Nat → Int))) (b_lead : Stand_load) (w : (Nat → Int)) (c : Stand_child) (r : Bool) (h : g70a b_StandBook b_truths b_lead w c = some r) : SCall Tryd.prog Gs 70 [.agg [.d (I b_StandBook.Kind), .d (I b_StandBook.Front), .d (I b_StandBook.Back), .d (I b_StandBook.Radius), .d (.sl 4 (List.map e70 b_StandBook.Parts)), .d (I b_StandBook.Along), .d (I b_StandBook.High), .d (I b_StandBook.Lean_), .d (I b_StandBook.Limit), .d (.sl 3 (List.map e65 b_StandBook.Trials)), .d (.sl 4 (List.map e92 b_truths)), .d (I b_lead.weight), .d (I b_lead.along), .d (I b_lead.high), .d (.nilMap)], .agg [.d (I (w 0)), .d (I (w 1)), .d (I (w 2)), .d (I (w 3))], .agg [.d (I c.weight), .d (I c.lean)]] [] 0 Fr.emp (.d (.bool r)) [] 0 Fr.emp := by
  unfold g70a at h
  refine SCall.mkK Tryd.func70 c70 rfl rfl (by kernel_rfl) (fun Q_0 hR_0 hN_0 => ?_)
  refine AW.sa fokW [] ⟨[(3, .ptr 0 0), (4, .ptr 1 0), (5, .ptr 2 0)], [(2, .var 94 [.d (I c.weight), .d (I c.lean)]), (1, .var 92 [.d (I (w 0)), .d (I (w 1)), .d (I (w 2)), .d (I (w 3))]), (0, .var 83 (catV (cv25 b_StandBook) [.d (.sl 4 (List.map e92 b_truths)), .d (I b_lead.weight), .d (I b_lead.along), .d (I b_lead.high), .d (.nilMap)]))], 3, Fr.emp, [], 0⟩ (by kernel_rfl) ?_
  refine AW.sdrwK fokW (fun Q_1 hQ_1 => ?_)
  refine RunC.auX 3 ⟨[(3, .ptr 0 0), (4, .ptr 1 0), (5, .ptr 2 0), (9, .d (I b_StandBook.Kind))], [(2, .var 94 [.d (I c.weight), .d (I c.lean)]), (1, .var 92 [.d (I (w 0)), .d (I (w 1)), .d (I (w 2)), .d (I (w 3))]), (0, .var 83 (catV (cv25 b_StandBook) [.d (.sl 4 (List.map e92 b_truths)), .d (I b_lead.weight), .d (I b_lead.along), .d (I b_lead.high), .d (.nilMap)]))], 3, Fr.emp, [], 0⟩ (by kernel_rfl) ?_
  obtain ⟨j, hv_2, h⟩ := bsome h
  rcases j with _ | _ | j
  · refine r_iaF trivial rfl rfl (ixN_ok hv_2).1 (ixN_ok hv_2).2.1 ?_
    refine r_loadF trivial rfl (u := .fn 121) (by rw [(ixN_ok hv_2).2.2]; rfl) ?_
    refine RunC.auX 4 ⟨[(11, .d (.fn 121)), (12, .agg [.d (I b_StandBook.Kind), .d (I b_StandBook.Front), .d (I b_StandBook.Back), .d (I b_StandBook.Radius), .d (.sl 4 (List.map e70 b_StandBook.Parts)), .d (I b_StandBook.Along), .d (I b_StandBook.High), .d (I b_StandBook.Lean_), .d (I b_StandBook.Limit), .d (.sl 3 (List.map e65 b_StandBook.Trials)), .d (.sl 4 (List.map e92 b_truths)), .d (I b_lead.weight), .d (I b_lead.along), .d (I b_lead.high), .d (.nilMap)]), (13, .agg [.d (I b_StandBook.Kind), .d (I b_StandBook.Front), .d (I b_StandBook.Back), .d (I b_StandBook.Radius), .d (.sl 4 (List.map e70 b_StandBook.Parts)), .d (I b_StandBook.Along), .d (I b_StandBook.High), .d (I b_StandBook.Lean_), .d (I b_StandBook.Limit), .d (.sl 3 (List.map e65 b_StandBook.Trials)), .d (.sl 4 (List.map e92 b_truths)), .d (I b_lead.weight), .d (I b_lead.along), .d (I b_lead.high), .d (.nilMap)]), (14, .agg [.d (I (w 0)), .d (I (w 1)), .d (I (w 2)), .d (I (w 3))]), (15, .agg [.d (I c.weight), .d (I c.lean)])], [(2, .var 94 [.d (I c.weight), .d (I c.lean)]), (1, .var 92 [.d (I (w 0)), .d (I (w 1)), .d (I (w 2)), .d (I (w 3))]), (0, .var 83 (catV (cv25 b_StandBook) [.d (.sl 4 (List.map e92 b_truths)), .d (I b_lead.weight), .d (I b_lead.along), .d (I b_lead.high), .d (.nilMap)]))], 3, Fr.emp, [], 0⟩ (by kernel_rfl) ?_
    obtain ⟨r0, hx_3, h⟩ := bsome h
    refine r_call trivial rfl (k95a b_StandBook b_truths b_lead w c _ hx_3) rfl rfl ?_
    obtain ⟨r0_1, hx_4, h⟩ := bsome h
    refine r_callvZ (zr := []) trivial rfl (.fn _) (by kernel_rfl) rfl (k121a b_StandBook b_truths b_lead r0 _ hx_4) trivial ⟨.refl _, .refl _, trivial⟩ rfl rfl rfl rfl ?_
    refine RunC.auX 2 ⟨[(6, .d (.bool (decide (r0_1 < 0))))], [(2, .var 94 [.d (I c.weight), .d (I c.lean)]), (1, .var 92 [.d (I (w 0)), .d (I (w 1)), .d (I (w 2)), .d (I (w 3))]), (0, .var 83 (catV (cv25 b_StandBook) [.d (.sl 4 (List.map e92 b_truths)), .d (I b_lead.weight), .d (I b_lead.along), .d (I b_lead.high), .d (.nilMap)]))], 3, Fr.emp, [], 0⟩ (by kernel_rfl) ?_
    refine RunC.fin ⟨[(6, .d (.bool (decide (r0_1 < 0))))], [], 3, Fr.emp, [], 0⟩ (by kernel_rfl) (by kernel_rfl) ?_
    refine hQ_1 _ ?_
    obtain rfl := Option.some.inj h
    exact AW.ret (hR_0 _ (retX (.cons (.tmp rfl) .nil) (.refl _) rfl (by kernel_rfl) (by kernel_rfl)))
  · refine r_iaF trivial rfl rfl (ixN_ok hv_2).1 (ixN_ok hv_2).2.1 ?_
    refine r_loadF trivial rfl (u := .fn 122) (by rw [(ixN_ok hv_2).2.2]; rfl) ?_
    refine RunC.auX 4 ⟨[(11, .d (.fn 122)), (12, .agg [.d (I b_StandBook.Kind), .d (I b_StandBook.Front), .d (I b_StandBook.Back), .d (I b_StandBook.Radius), .d (.sl 4 (List.map e70 b_StandBook.Parts)), .d (I b_StandBook.Along), .d (I b_StandBook.High), .d (I b_StandBook.Lean_), .d (I b_StandBook.Limit), .d (.sl 3 (List.map e65 b_StandBook.Trials)), .d (.sl 4 (List.map e92 b_truths)), .d (I b_lead.weight), .d (I b_lead.along), .d (I b_lead.high), .d (.nilMap)]), (13, .agg [.d (I b_StandBook.Kind), .d (I b_StandBook.Front), .d (I b_StandBook.Back), .d (I b_StandBook.Radius), .d (.sl 4 (List.map e70 b_StandBook.Parts)), .d (I b_StandBook.Along), .d (I b_StandBook.High), .d (I b_StandBook.Lean_), .d (I b_StandBook.Limit), .d (.sl 3 (List.map e65 b_StandBook.Trials)), .d (.sl 4 (List.map e92 b_truths)), .d (I b_lead.weight), .d (I b_lead.along), .d (I b_lead.high), .d (.nilMap)]), (14, .agg [.d (I (w 0)), .d (I (w 1)), .d (I (w 2)), .d (I (w 3))]), (15, .agg [.d (I c.weight), .d (I c.lean)])], [(2, .var 94 [.d (I c.weight), .d (I c.lean)]), (1, .var 92 [.d (I (w 0)), .d (I (w 1)), .d (I (w 2)), .d (I (w 3))]), (0, .var 83 (catV (cv25 b_StandBook) [.d (.sl 4 (List.map e92 b_truths)), .d (I b_lead.weight), .d (I b_lead.along), .d (I b_lead.high), .d (.nilMap)]))], 3, Fr.emp, [], 0⟩ (by kernel_rfl) ?_
    obtain ⟨r0_2, hx_5, h⟩ := bsome h
    refine r_call trivial rfl (k95a b_StandBook b_truths b_lead w c _ hx_5) rfl rfl ?_
    obtain ⟨r0_1_1, hx_6, h⟩ := bsome h
    refine r_callvZ (zr := []) trivial rfl (.fn _) (by kernel_rfl) rfl (k122a b_StandBook b_truths b_lead r0_2 _ hx_6) trivial ⟨.refl _, .refl _, trivial⟩ rfl rfl rfl rfl ?_
    refine RunC.auX 2 ⟨[(6, .d (.bool (decide (r0_1_1 < 0))))], [(2, .var 94 [.d (I c.weight), .d (I c.lean)]), (1, .var 92 [.d (I (w 0)), .d (I (w 1)), .d (I (w 2)), .d (I (w 3))]), (0, .var 83 (catV (cv25 b_StandBook) [.d (.sl 4 (List.map e92 b_truths)), .d (I b_lead.weight), .d (I b_lead.along), .d (I b_lead.high), .d (.nilMap)]))], 3, Fr.emp, [], 0⟩ (by kernel_rfl) ?_
    refine RunC.fin ⟨[(6, .d (.bool (decide (r0_1_1 < 0))))], [], 3, Fr.emp, [], 0⟩ (by kernel_rfl) (by kernel_rfl) ?_
    refine hQ_1 _ ?_
    obtain rfl := Option.some.inj h
    exact AW.ret (hR_0 _ (retX (.cons (.tmp rfl) .nil) (.refl _) rfl (by kernel_rfl) (by kernel_rfl)))
  · cases h
def g85a_3 (b_StandBook : StandBook) (b_truths : (List (Nat → Int))) (b_lead : Stand_load) (w : (Nat → Int)) (but : (List Int)) : Int → StandTrial → Unit → Option (Ctl (Unit) (Bool)) := fun v p _ => (g101 but v).bind fun r0 => bif (!r0) then ((g70a b_StandBook b_truths b_lead w (Stand_child.mk p.Weight p.Lean_)).bind fun r0_4 => bif (true != (r0_4 == p.Tipped)) then (some (.brk false)) else (some (.next ()))) else (some (.next ()))
def g85a (b_StandBook : StandBook) (b_truths : (List (Nat → Int))) (b_lead : Stand_load) (w : (Nat → Int)) (but : (List Int)) : Option Bool := bindC (eachC (g85a_3 b_StandBook b_truths b_lead w but) b_StandBook.Trials 0 ()) fun _ => some true
theorem k85a (b_StandBook : StandBook) (b_truths : (List (Nat → Int))) (b_lead : Stand_load) (w : (Nat → Int)) (but : (List Int)) (r : Bool) (h : g85a b_StandBook b_truths b_lead w but = some r) : SCall Tryd.prog Gs 85 [.agg [.d (I b_StandBook.Kind), .d (I b_StandBook.Front), .d (I b_StandBook.Back), .d (I b_StandBook.Radius), .d (.sl 4 (List.map e70 b_StandBook.Parts)), .d (I b_StandBook.Along), .d (I b_StandBook.High), .d (I b_StandBook.Lean_), .d (I b_StandBook.Limit), .d (.sl 3 (List.map e65 b_StandBook.Trials)), .d (.sl 4 (List.map e92 b_truths)), .d (I b_lead.weight), .d (I b_lead.along), .d (I b_lead.high), .d (.nilMap)], .agg [.d (I (w 0)), .d (I (w 1)), .d (I (w 2)), .d (I (w 3))], .d (.sl 1 (List.map e3 but))] [] 0 Fr.emp (.d (.bool r)) [] 0 Fr.emp := by
  unfold g85a at h
  refine SCall.mkK Tryd.func85 c85 rfl rfl (by kernel_rfl) (fun Q_0 hR_0 hN_0 => ?_)
  refine AW.sa fokW [] ⟨[(2, .d (.sl 1 (List.map e3 but))), (3, .ptr 0 0), (4, .ptr 1 0)], [(1, .var 92 [.d (I (w 0)), .d (I (w 1)), .d (I (w 2)), .d (I (w 3))]), (0, .var 83 (catV (cv25 b_StandBook) [.d (.sl 4 (List.map e92 b_truths)), .d (I b_lead.weight), .d (I b_lead.along), .d (I b_lead.high), .d (.nilMap)]))], 2, Fr.emp, [], 0⟩ (by kernel_rfl) ?_
  refine AW.seqK (fun K_1 hK_1 => ?_)
  refine AW.srwK (fun Q_2 hQ_2 => ?_)
  refine RW.au fokW 3 [] ⟨[(2, .d (.sl 1 (List.map e3 but))), (3, .ptr 0 0), (4, .ptr 1 0), (11, .d (.sl 3 (List.map e65 b_StandBook.Trials)))], [(1, .var 92 [.d (I (w 0)), .d (I (w 1)), .d (I (w 2)), .d (I (w 3))]), (0, .var 83 (catV (cv25 b_StandBook) [.d (.sl 4 (List.map e92 b_truths)), .d (I b_lead.weight), .d (I b_lead.along), .d (I b_lead.high), .d (.nilMap)]))], 2, Fr.emp, [], 0⟩ (by kernel_rfl) ?_
  refine RW.one fokW (r_lenX trivial rfl lenm (r_end ?_))
  refine RW.au fokW 1 [] ⟨[(2, .d (.sl 1 (List.map e3 but))), (3, .ptr 0 0), (4, .ptr 1 0), (11, .d (.sl 3 (List.map e65 b_StandBook.Trials))), (12, .d (I (b_StandBook.Trials.length : Int))), (13, .d (I 0))], [(1, .var 92 [.d (I (w 0)), .d (I (w 1)), .d (I (w 2)), .d (I (w 3))]), (0, .var 83 (catV (cv25 b_StandBook) [.d (.sl 4 (List.map e92 b_truths)), .d (I b_lead.weight), .d (I b_lead.along), .d (I b_lead.high), .d (.nilMap)]))], 2, Fr.emp, [], 0⟩ (by kernel_rfl) ?_
  refine RW.nil ?_
  refine hQ_2 _ ?_
  refine AW.block ?_
  refine AW.sln (t := 11) rfl (fun hN_3 => ?_)
  rw [List.length_map] at hN_3
  obtain ⟨out_3, hx_3, hk_3⟩ := bsomeC h
  refine AW.evCK (fun (v : Int) (_ : Unit) => ⟨[(2, .d (.sl 1 (List.map e3 but))), (3, .ptr 0 0), (4, .ptr 1 0), (11, .d (.sl 3 (List.map e65 b_StandBook.Trials))), (12, .d (I (b_StandBook.Trials.length : Int))), (13, .d (I v))], [(1, .var 92 [.d (I (w 0)), .d (I (w 1)), .d (I (w 2)), .d (I (w 3))]), (0, .var 83 (catV (cv25 b_StandBook) [.d (.sl 4 (List.map e92 b_truths)), .d (I b_lead.weight), .d (I b_lead.along), .d (I b_lead.high), .d (.nilMap)]))], 2, Fr.emp, [], 0⟩) (g85a_3 b_StandBook b_truths b_lead w but) hx_3 (Can.kp (by kernel_rfl)) (fun v p s_3 hi_3 hl_3 hp_3 c_3 h hb_3 K_3 hK_3 => ?_) (fun v s_3 hi_3 hl_3 hout => ?_)
  · unfold g85a_3 at h
    refine AW.sa fokW [] ⟨[(2, .d (.sl 1 (List.map e3 but))), (3, .ptr 0 0), (4, .ptr 1 0), (11, .d (.sl 3 (List.map e65 b_StandBook.Trials))), (12, .d (I (b_StandBook.Trials.length : Int))), (13, .d (I v)), (14, .d (.bool (decide (v < (b_StandBook.Trials.length : Int)))))], [(1, .var 92 [.d (I (w 0)), .d (I (w 1)), .d (I (w 2)), .d (I (w 3))]), (0, .var 83 (catV (cv25 b_StandBook) [.d (.sl 4 (List.map e92 b_truths)), .d (I b_lead.weight), .d (I b_lead.along), .d (I b_lead.high), .d (.nilMap)]))], 2, Fr.emp, [], 0⟩ (by kernel_rfl) ?_
    refine AW.seqK (fun K_4 hK_4 => ?_)
    refine AW.cond rfl (fun hb_5 => ?_) (fun hb_5 => False.elim (by have := of_decide_eq_false hb_5; omega))
    refine AW.skip ?_
    refine hK_4 _ ?_
    refine AW.seqK (fun K_6 hK_6 => ?_)
    refine AW.block ?_
    refine AW.srwK (fun Q_7 hQ_7 => ?_)
    refine RW.au fokW 1 [] ⟨[(2, .d (.sl 1 (List.map e3 but))), (3, .ptr 0 0), (4, .ptr 1 0), (11, .d (.sl 3 (List.map e65 b_StandBook.Trials))), (12, .d (I (b_StandBook.Trials.length : Int))), (13, .d (I v)), (15, .d (I v))], [(1, .var 92 [.d (I (w 0)), .d (I (w 1)), .d (I (w 2)), .d (I (w 3))]), (0, .var 83 (catV (cv25 b_StandBook) [.d (.sl 4 (List.map e92 b_truths)), .d (I b_lead.weight), .d (I b_lead.along), .d (I b_lead.high), .d (.nilMap)]))], 2, Fr.emp, [], 0⟩ (by kernel_rfl) ?_
    refine RW.one fokW (r_iaD trivial rfl rfl hi_3 (row := e65 p) (mapget hp_3) (r_end ?_))
    refine RW.au fokW 4 [] ⟨[(2, .d (.sl 1 (List.map e3 but))), (3, .ptr 0 0), (4, .ptr 1 0), (7, .d (I v)), (8, .ptr 2 0), (11, .d (.sl 3 (List.map e65 b_StandBook.Trials))), (12, .d (I (b_StandBook.Trials.length : Int))), (13, .d (I v))], [(2, .var 65 [.d (I p.Weight), .d (I p.Lean_), .d (.bool p.Tipped)]), (1, .var 92 [.d (I (w 0)), .d (I (w 1)), .d (I (w 2)), .d (I (w 3))]), (0, .var 83 (catV (cv25 b_StandBook) [.d (.sl 4 (List.map e92 b_truths)), .d (I b_lead.weight), .d (I b_lead.along), .d (I b_lead.high), .d (.nilMap)]))], 3, Fr.emp, [], 0⟩ (by kernel_rfl) ?_
    refine RW.nil ?_
    refine hQ_7 _ ?_
    refine AW.sdrwK fokW (fun Q_8 hQ_8 => ?_)
    refine RunC.auX 2 ⟨[(2, .d (.sl 1 (List.map e3 but))), (3, .ptr 0 0), (4, .ptr 1 0), (8, .ptr 2 0), (11, .d (.sl 3 (List.map e65 b_StandBook.Trials))), (12, .d (I (b_StandBook.Trials.length : Int))), (13, .d (I v)), (18, .d (.sl 1 (List.map e3 but))), (19, .d (I v))], [(2, .var 65 [.d (I p.Weight), .d (I p.Lean_), .d (.bool p.Tipped)]), (1, .var 92 [.d (I (w 0)), .d (I (w 1)), .d (I (w 2)), .d (I (w 3))]), (0, .var 83 (catV (cv25 b_StandBook) [.d (.sl 4 (List.map e92 b_truths)), .d (I b_lead.weight), .d (I b_lead.along), .d (I b_lead.high), .d (.nilMap)]))], 3, Fr.emp, [], 0⟩ (by kernel_rfl) ?_
    obtain ⟨r0, hx_9, h⟩ := bsome h
    refine r_call trivial rfl (k101 but v _ hx_9) rfl rfl ?_
    refine RunC.auX 2 ⟨[(2, .d (.sl 1 (List.map e3 but))), (3, .ptr 0 0), (4, .ptr 1 0), (8, .ptr 2 0), (11, .d (.sl 3 (List.map e65 b_StandBook.Trials))), (12, .d (I (b_StandBook.Trials.length : Int))), (13, .d (I v)), (22, .d (.bool (!r0)))], [(2, .var 65 [.d (I p.Weight), .d (I p.Lean_), .d (.bool p.Tipped)]), (1, .var 92 [.d (I (w 0)), .d (I (w 1)), .d (I (w 2)), .d (I (w 3))]), (0, .var 83 (catV (cv25 b_StandBook) [.d (.sl 4 (List.map e92 b_truths)), .d (I b_lead.weight), .d (I b_lead.along), .d (I b_lead.high), .d (.nilMap)]))], 3, Fr.emp, [], 0⟩ (by kernel_rfl) ?_
    refine r_split 22 rfl (fun hb_10 => ?_) (fun hb_10 => ?_)
    · have h := ifT hb_10 h
      refine RunC.auX 7 ⟨[(2, .d (.sl 1 (List.map e3 but))), (3, .ptr 0 0), (4, .ptr 1 0), (8, .ptr 2 0), (11, .d (.sl 3 (List.map e65 b_StandBook.Trials))), (12, .d (I (b_StandBook.Trials.length : Int))), (13, .d (I v)), (22, .d (.bool true)), (23, .agg [.d (I b_StandBook.Kind), .d (I b_StandBook.Front), .d (I b_StandBook.Back), .d (I b_StandBook.Radius), .d (.sl 4 (List.map e70 b_StandBook.Parts)), .d (I b_StandBook.Along), .d (I b_StandBook.High), .d (I b_StandBook.Lean_), .d (I b_StandBook.Limit), .d (.sl 3 (List.map e65 b_StandBook.Trials)), .d (.sl 4 (List.map e92 b_truths)), .d (I b_lead.weight), .d (I b_lead.along), .d (I b_lead.high), .d (.nilMap)]), (24, .agg [.d (I (w 0)), .d (I (w 1)), .d (I (w 2)), .d (I (w 3))]), (25, .ptr 2 0), (26, .d (I p.Weight)), (27, .ptr 2 1), (28, .d (I p.Lean_)), (29, .agg [.d (I p.Weight), .d (I p.Lean_)])], [(2, .var 65 [.d (I p.Weight), .d (I p.Lean_), .d (.bool p.Tipped)]), (1, .var 92 [.d (I (w 0)), .d (I (w 1)), .d (I (w 2)), .d (I (w 3))]), (0, .var 83 (catV (cv25 b_StandBook) [.d (.sl 4 (List.map e92 b_truths)), .d (I b_lead.weight), .d (I b_lead.along), .d (I b_lead.high), .d (.nilMap)]))], 3, Fr.emp, [], 0⟩ (by kernel_rfl) ?_
      obtain ⟨r0_4, hx_11, h⟩ := bsome h
      refine r_call rfl rfl (k70a b_StandBook b_truths b_lead w (Stand_child.mk p.Weight p.Lean_) _ hx_11) rfl rfl ?_
      refine RunC.auX 4 ⟨[(2, .d (.sl 1 (List.map e3 but))), (3, .ptr 0 0), (4, .ptr 1 0), (11, .d (.sl 3 (List.map e65 b_StandBook.Trials))), (12, .d (I (b_StandBook.Trials.length : Int))), (13, .d (I v)), (23, .agg [.d (I b_StandBook.Kind), .d (I b_StandBook.Front), .d (I b_StandBook.Back), .d (I b_StandBook.Radius), .d (.sl 4 (List.map e70 b_StandBook.Parts)), .d (I b_StandBook.Along), .d (I b_StandBook.High), .d (I b_StandBook.Lean_), .d (I b_StandBook.Limit), .d (.sl 3 (List.map e65 b_StandBook.Trials)), .d (.sl 4 (List.map e92 b_truths)), .d (I b_lead.weight), .d (I b_lead.along), .d (I b_lead.high), .d (.nilMap)]), (24, .agg [.d (I (w 0)), .d (I (w 1)), .d (I (w 2)), .d (I (w 3))]), (25, .ptr 2 0), (26, .d (I p.Weight)), (27, .ptr 2 1), (28, .d (I p.Lean_)), (29, .agg [.d (I p.Weight), .d (I p.Lean_)]), (30, .d (.bool r0_4)), (31, .ptr 2 2), (32, .d (.bool p.Tipped)), (33, .d (.bool (true != (r0_4 == p.Tipped)))), (34, .d (.bool (true != (r0_4 == p.Tipped))))], [(2, .var 65 [.d (I p.Weight), .d (I p.Lean_), .d (.bool p.Tipped)]), (1, .var 92 [.d (I (w 0)), .d (I (w 1)), .d (I (w 2)), .d (I (w 3))]), (0, .var 83 (catV (cv25 b_StandBook) [.d (.sl 4 (List.map e92 b_truths)), .d (I b_lead.weight), .d (I b_lead.along), .d (I b_lead.high), .d (.nilMap)]))], 3, Fr.emp, [], 0⟩ (by kernel_rfl) ?_
      refine RunC.fin ⟨[(2, .d (.sl 1 (List.map e3 but))), (3, .ptr 0 0), (4, .ptr 1 0), (11, .d (.sl 3 (List.map e65 b_StandBook.Trials))), (12, .d (I (b_StandBook.Trials.length : Int))), (13, .d (I v)), (23, .agg [.d (I b_StandBook.Kind), .d (I b_StandBook.Front), .d (I b_StandBook.Back), .d (I b_StandBook.Radius), .d (.sl 4 (List.map e70 b_StandBook.Parts)), .d (I b_StandBook.Along), .d (I b_StandBook.High), .d (I b_StandBook.Lean_), .d (I b_StandBook.Limit), .d (.sl 3 (List.map e65 b_StandBook.Trials)), .d (.sl 4 (List.map e92 b_truths)), .d (I b_lead.weight), .d (I b_lead.along), .d (I b_lead.high), .d (.nilMap)]), (24, .agg [.d (I (w 0)), .d (I (w 1)), .d (I (w 2)), .d (I (w 3))]), (25, .ptr 2 0), (26, .d (I p.Weight)), (27, .ptr 2 1), (28, .d (I p.Lean_)), (29, .agg [.d (I p.Weight), .d (I p.Lean_)]), (30, .d (.bool r0_4)), (31, .ptr 2 2), (32, .d (.bool p.Tipped)), (33, .d (.bool (true != (r0_4 == p.Tipped)))), (34, .d (.bool (true != (r0_4 == p.Tipped))))], [(2, .var 65 [.d (I p.Weight), .d (I p.Lean_), .d (.bool p.Tipped)]), (1, .var 92 [.d (I (w 0)), .d (I (w 1)), .d (I (w 2)), .d (I (w 3))]), (0, .var 83 (catV (cv25 b_StandBook) [.d (.sl 4 (List.map e92 b_truths)), .d (I b_lead.weight), .d (I b_lead.along), .d (I b_lead.high), .d (.nilMap)]))], 3, Fr.emp, [], 0⟩ (by kernel_rfl) (by kernel_rfl) ?_
      refine hQ_8 _ ?_
      refine AW.cond rfl (fun hb_12 => ?_) (fun hb_12 => ?_)
      · have h := ifT hb_12 h
        refine AW.sa fokW [] ⟨[(6, .d (.bool false))], [], 3, Fr.emp, [], 0⟩ (by kernel_rfl) ?_
        obtain rfl := Option.some.inj h
        have e_1 := hb_3 _ rfl
        subst e_1
        obtain rfl := Aft.bk hk_3
        exact AW.ret (hR_0 _ (retX (.cons (.tmp rfl) .nil) (.refl _) rfl (by kernel_rfl) (by kernel_rfl)))
      · have h := ifF hb_12 h
        refine AW.skip ?_
        refine hK_6 _ ?_
        refine AW.ra fokW [] ⟨[(2, .d (.sl 1 (List.map e3 but))), (3, .ptr 0 0), (4, .ptr 1 0), (11, .d (.sl 3 (List.map e65 b_StandBook.Trials))), (12, .d (I (b_StandBook.Trials.length : Int))), (13, .d (I (wr (v + 1)))), (23, .agg [.d (I b_StandBook.Kind), .d (I b_StandBook.Front), .d (I b_StandBook.Back), .d (I b_StandBook.Radius), .d (.sl 4 (List.map e70 b_StandBook.Parts)), .d (I b_StandBook.Along), .d (I b_StandBook.High), .d (I b_StandBook.Lean_), .d (I b_StandBook.Limit), .d (.sl 3 (List.map e65 b_StandBook.Trials)), .d (.sl 4 (List.map e92 b_truths)), .d (I b_lead.weight), .d (I b_lead.along), .d (I b_lead.high), .d (.nilMap)]), (24, .agg [.d (I (w 0)), .d (I (w 1)), .d (I (w 2)), .d (I (w 3))]), (25, .ptr 2 0), (26, .d (I p.Weight)), (27, .ptr 2 1), (28, .d (I p.Lean_)), (29, .agg [.d (I p.Weight), .d (I p.Lean_)]), (30, .d (.bool r0_4)), (31, .ptr 2 2), (32, .d (.bool p.Tipped)), (33, .d (.bool (true != (r0_4 == p.Tipped))))], [(2, .var 65 [.d (I p.Weight), .d (I p.Lean_), .d (.bool p.Tipped)]), (1, .var 92 [.d (I (w 0)), .d (I (w 1)), .d (I (w 2)), .d (I (w 3))]), (0, .var 83 (catV (cv25 b_StandBook) [.d (.sl 4 (List.map e92 b_truths)), .d (I b_lead.weight), .d (I b_lead.along), .d (I b_lead.high), .d (.nilMap)]))], 3, Fr.emp, [], 0⟩ (by kernel_rfl) ?_
        obtain rfl := Option.some.inj h
        have ew : wr (v + 1) = v + 1 := inext (N := (b_StandBook.Trials.length : Int)) (by omega) (by omega) (by omega)
        rw [ew]
        exact hK_3 _ _ rfl (Can.kp (by kernel_rfl))
    · have h := ifF hb_10 h
      refine RunC.auX 12 ⟨[(2, .d (.sl 1 (List.map e3 but))), (3, .ptr 0 0), (4, .ptr 1 0), (11, .d (.sl 3 (List.map e65 b_StandBook.Trials))), (12, .d (I (b_StandBook.Trials.length : Int))), (13, .d (I v)), (23, .undef), (24, .undef), (25, .undef), (26, .undef), (27, .undef), (28, .undef), (29, .undef), (30, .undef), (31, .undef), (32, .undef), (33, .undef), (34, .d (.bool false))], [(2, .var 65 [.d (I p.Weight), .d (I p.Lean_), .d (.bool p.Tipped)]), (1, .var 92 [.d (I (w 0)), .d (I (w 1)), .d (I (w 2)), .d (I (w 3))]), (0, .var 83 (catV (cv25 b_StandBook) [.d (.sl 4 (List.map e92 b_truths)), .d (I b_lead.weight), .d (I b_lead.along), .d (I b_lead.high), .d (.nilMap)]))], 3, Fr.emp, [], 0⟩ (by kernel_rfl) ?_
      refine RunC.fin ⟨[(2, .d (.sl 1 (List.map e3 but))), (3, .ptr 0 0), (4, .ptr 1 0), (11, .d (.sl 3 (List.map e65 b_StandBook.Trials))), (12, .d (I (b_StandBook.Trials.length : Int))), (13, .d (I v)), (23, .undef), (24, .undef), (25, .undef), (26, .undef), (27, .undef), (28, .undef), (29, .undef), (30, .undef), (31, .undef), (32, .undef), (33, .undef), (34, .d (.bool false))], [(1, .var 92 [.d (I (w 0)), .d (I (w 1)), .d (I (w 2)), .d (I (w 3))]), (0, .var 83 (catV (cv25 b_StandBook) [.d (.sl 4 (List.map e92 b_truths)), .d (I b_lead.weight), .d (I b_lead.along), .d (I b_lead.high), .d (.nilMap)]))], 3, Fr.emp, [], 0⟩ (by kernel_rfl) (by kernel_rfl) ?_
      refine hQ_8 _ ?_
      refine AW.condF rfl ?_
      refine AW.skip ?_
      refine hK_6 _ ?_
      refine AW.ra fokW [] ⟨[(2, .d (.sl 1 (List.map e3 but))), (3, .ptr 0 0), (4, .ptr 1 0), (11, .d (.sl 3 (List.map e65 b_StandBook.Trials))), (12, .d (I (b_StandBook.Trials.length : Int))), (13, .d (I (wr (v + 1)))), (23, .undef), (24, .undef), (25, .undef), (26, .undef), (27, .undef), (28, .undef), (29, .undef), (30, .undef), (31, .undef), (32, .undef), (33, .undef)], [(1, .var 92 [.d (I (w 0)), .d (I (w 1)), .d (I (w 2)), .d (I (w 3))]), (0, .var 83 (catV (cv25 b_StandBook) [.d (.sl 4 (List.map e92 b_truths)), .d (I b_lead.weight), .d (I b_lead.along), .d (I b_lead.high), .d (.nilMap)]))], 3, Fr.emp, [], 0⟩ (by kernel_rfl) ?_
      obtain rfl := Option.some.inj h
      have ew : wr (v + 1) = v + 1 := inext (N := (b_StandBook.Trials.length : Int)) (by omega) (by omega) (by omega)
      rw [ew]
      exact hK_3 _ _ rfl (Can.kp (by kernel_rfl))
  · subst hout
    have h := Aft.nx hk_3
    refine AW.sa fokW [] ⟨[(2, .d (.sl 1 (List.map e3 but))), (3, .ptr 0 0), (4, .ptr 1 0), (11, .d (.sl 3 (List.map e65 b_StandBook.Trials))), (12, .d (I (b_StandBook.Trials.length : Int))), (13, .d (I v)), (14, .d (.bool (decide (v < (b_StandBook.Trials.length : Int)))))], [(1, .var 92 [.d (I (w 0)), .d (I (w 1)), .d (I (w 2)), .d (I (w 3))]), (0, .var 83 (catV (cv25 b_StandBook) [.d (.sl 4 (List.map e92 b_truths)), .d (I b_lead.weight), .d (I b_lead.along), .d (I b_lead.high), .d (.nilMap)]))], 2, Fr.emp, [], 0⟩ (by kernel_rfl) ?_
    refine AW.seqK (fun K_13 hK_13 => ?_)
    refine AW.cond rfl (fun hb_14 => False.elim (by have := of_decide_eq_true hb_14; omega)) (fun hb_14 => ?_)
    refine AW.exit ?_
    refine hK_1 _ ?_
    refine AW.sa fokW [] ⟨[(6, .d (.bool true))], [], 2, Fr.emp, [], 0⟩ (by kernel_rfl) ?_
    obtain rfl := Option.some.inj h
    exact AW.ret (hR_0 _ (retX (.cons (.tmp rfl) .nil) (.refl _) rfl (by kernel_rfl) (by kernel_rfl)))
def g83_r7 (some_ : (List Int)) (o0_StandBook : StandBook) (o0_truths : (List (Nat → Int))) (o0_lead : Stand_load) : ((Nat → Int)) → (Unit) → Option (Ctl (Unit) (Unit)) := fun a _ => (g85a o0_StandBook o0_truths o0_lead a some_).bind fun r0_2 => bif (!r0_2) then (some (.next ())) else (some (.brk ()))
def g83_18 (rec_ : (List Int) → Int → StandBook → (List (Nat → Int)) → Stand_load → StandBook → Option ((List Int) × Bool)) (some_ : (List Int)) (many : Int) (o0_StandBook : StandBook) (o0_truths : (List (Nat → Int))) (o0_lead : Stand_load) (o1 : StandBook) : Int → Unit → Option (Ctl (Unit) (Ctl (Unit) (Ctl (Unit) ((List Int) × Bool)))) := fun n _ => (slcL some_ 0 (some_.length : Int)).bind fun l => (appL 8 l [n]).bind fun l1 => (rec_ l1 many o0_StandBook o0_truths o0_lead o1).bind fun (r0_5_1, r1_4_1) => bif r1_4_1 then (some (.brk (.brk (.brk (r0_5_1, true))))) else (some (.next ()))
def g83 : Nat → (List Int) → Int → StandBook → (List (Nat → Int)) → Stand_load → StandBook → Option ((List Int) × Bool)
  | 0, _, _, _, _, _, _ => none
  | n_ + 1, some_, many, o0_StandBook, o0_truths, o0_lead, o1 => bif (decide ((some_.length : Int) = many)) then ((g84a o0_StandBook o0_truths o0_lead).bind fun (o0_StandBook1, o0_truths1, o0_lead1) => (g98a (fun a s => rndC (g83_r7 some_ o0_StandBook o0_truths o0_lead) a s) o0_StandBook1 o0_truths1 o0_lead1 (.next ())).bind fun out_7 => match out_7 with | .next _ => some ([], false) | .brk _ => some (some_, true)) else ((bif (decide (0 < (some_.length : Int))) then ((ixL some_ (wr ((some_.length : Int) - 1))).bind fun p => some (wr (p + 1))) else (some 0)).bind fun from_ => bindC (bindC ((must (decide (-9223372036854775808 ≤ from_))).bind fun _ => bindC (forC (g83_18 (g83 n_) some_ many o0_StandBook o0_truths o0_lead o1) ((((o1.Trials.length : Int) : Int) - from_).toNat) from_ ()) fun _ => some (.next ()) : Option (Ctl (Unit) (Ctl (Unit) ((List Int) × Bool)))) fun _ => some (.next ()) : Option (Ctl (Unit) ((List Int) × Bool))) fun _ => some ([], false))
theorem k83 : ∀ (n_ : Nat) (some_ : (List Int)) (many : Int) (o0_StandBook : StandBook) (o0_truths : (List (Nat → Int))) (o0_lead : Stand_load) (o1 : StandBook) (r : (List Int) × Bool) (h : g83 n_ some_ many o0_StandBook o0_truths o0_lead o1 = some r), SCall Tryd.prog Gs 83 [.d (.sl 1 (List.map e3 some_)), .d (I many), .ptr 0 0, .ptr 1 0, .ptr 2 0] [(0, .var 83 (catV (cv25 o0_StandBook) [.d (.sl 4 (List.map e92 o0_truths)), .d (I o0_lead.weight), .d (I o0_lead.along), .d (I o0_lead.high), .d (.nilMap)])), (1, .var 25 (cv25 o1)), (2, .var 105 [.clo 83 [] [.ptr 0 0, .ptr 1 0, .ptr 2 0]])] 3 Fr.emp (match r with | (r0_5, r1_4) => .tup [.d (.sl 1 (List.map e3 r0_5)), .d (.bool r1_4)]) (match r with | (r0_5, r1_4) => [(0, .var 83 (catV (cv25 o0_StandBook) [.d (.sl 4 (List.map e92 o0_truths)), .d (I o0_lead.weight), .d (I o0_lead.along), .d (I o0_lead.high), .d (.nilMap)])), (1, .var 25 (cv25 o1)), (2, .var 105 [.clo 83 [] [.ptr 0 0, .ptr 1 0, .ptr 2 0]])]) 3 Fr.emp := by
  intro n_
  induction n_ with
  | zero => intro some_ many o0_StandBook o0_truths o0_lead o1 r h; cases h
  | succ n_ ih =>
    intro some_ many o0_StandBook o0_truths o0_lead o1 r h
    rw [g83] at h
    refine SCall.mkK Tryd.func83 c83 rfl rfl (by kernel_rfl) (fun Q_0 hR_0 hN_0 => ?_)
    refine AW.sa fokW [] ⟨[(1, .d (I many)), (2, .ptr 0 0), (3, .ptr 1 0), (4, .ptr 2 0), (5, .ptr 3 0), (7, .ptr 4 0), (8, .ptr 5 0)], [(5, .var 4 [.d (.bool false)]), (4, .var 47 [.d (.nilSl)]), (3, .var 47 [.d (.sl 1 (List.map e3 some_))]), (0, .var 83 (catV (cv25 o0_StandBook) [.d (.sl 4 (List.map e92 o0_truths)), .d (I o0_lead.weight), .d (I o0_lead.along), .d (I o0_lead.high), .d (.nilMap)])), (1, .var 25 (cv25 o1)), (2, .var 105 [.clo 83 [] [.ptr 0 0, .ptr 1 0, .ptr 2 0]])], 6, Fr.emp, [], 3⟩ (by kernel_rfl) ?_
    refine AW.srwK (fun Q_1 hQ_1 => ?_)
    refine RW.au fokW 1 [] ⟨[(1, .d (I many)), (2, .ptr 0 0), (3, .ptr 1 0), (4, .ptr 2 0), (5, .ptr 3 0), (7, .ptr 4 0), (8, .ptr 5 0), (15, .d (.sl 1 (List.map e3 some_)))], [(5, .var 4 [.d (.bool false)]), (4, .var 47 [.d (.nilSl)]), (3, .var 47 [.d (.sl 1 (List.map e3 some_))]), (0, .var 83 (catV (cv25 o0_StandBook) [.d (.sl 4 (List.map e92 o0_truths)), .d (I o0_lead.weight), .d (I o0_lead.along), .d (I o0_lead.high), .d (.nilMap)])), (1, .var 25 (cv25 o1)), (2, .var 105 [.clo 83 [] [.ptr 0 0, .ptr 1 0, .ptr 2 0]])], 6, Fr.emp, [], 3⟩ (by kernel_rfl) ?_
    refine RW.one fokW (r_lenX trivial rfl lenm (r_end ?_))
    refine RW.au fokW 1 [] ⟨[(1, .d (I many)), (2, .ptr 0 0), (3, .ptr 1 0), (4, .ptr 2 0), (5, .ptr 3 0), (7, .ptr 4 0), (8, .ptr 5 0), (9, .d (I (some_.length : Int)))], [(5, .var 4 [.d (.bool false)]), (4, .var 47 [.d (.nilSl)]), (3, .var 47 [.d (.sl 1 (List.map e3 some_))]), (0, .var 83 (catV (cv25 o0_StandBook) [.d (.sl 4 (List.map e92 o0_truths)), .d (I o0_lead.weight), .d (I o0_lead.along), .d (I o0_lead.high), .d (.nilMap)])), (1, .var 25 (cv25 o1)), (2, .var 105 [.clo 83 [] [.ptr 0 0, .ptr 1 0, .ptr 2 0]])], 6, Fr.emp, [], 3⟩ (by kernel_rfl) ?_
    refine RW.nil ?_
    refine hQ_1 _ ?_
    refine AW.seqK (fun K_2 hK_2 => ?_)
    refine AW.sa fokW [] ⟨[(1, .d (I many)), (2, .ptr 0 0), (3, .ptr 1 0), (4, .ptr 2 0), (5, .ptr 3 0), (7, .ptr 4 0), (8, .ptr 5 0), (9, .d (I (some_.length : Int))), (19, .d (.bool (decide ((some_.length : Int) = many))))], [(5, .var 4 [.d (.bool false)]), (4, .var 47 [.d (.nilSl)]), (3, .var 47 [.d (.sl 1 (List.map e3 some_))]), (0, .var 83 (catV (cv25 o0_StandBook) [.d (.sl 4 (List.map e92 o0_truths)), .d (I o0_lead.weight), .d (I o0_lead.along), .d (I o0_lead.high), .d (.nilMap)])), (1, .var 25 (cv25 o1)), (2, .var 105 [.clo 83 [] [.ptr 0 0, .ptr 1 0, .ptr 2 0]])], 6, Fr.emp, [], 3⟩ (by kernel_rfl) ?_
    refine AW.cond rfl (fun hb_3 => ?_) (fun hb_3 => ?_)
    · have h := ifT hb_3 h
      refine AW.scope ?_
      refine AW.seq (AW.skip ?_)
      refine AW.seqK (fun K_4 hK_4 => ?_)
      refine AW.srwK (fun Q_5 hQ_5 => ?_)
      refine RW.au fokW 1 [] ⟨[(2, .ptr 0 0), (5, .ptr 3 0), (7, .ptr 4 0), (8, .ptr 5 0), (20, .agg [.d (I o0_StandBook.Kind), .d (I o0_StandBook.Front), .d (I o0_StandBook.Back), .d (I o0_StandBook.Radius), .d (.sl 4 (List.map e70 o0_StandBook.Parts)), .d (I o0_StandBook.Along), .d (I o0_StandBook.High), .d (I o0_StandBook.Lean_), .d (I o0_StandBook.Limit), .d (.sl 3 (List.map e65 o0_StandBook.Trials)), .d (.sl 4 (List.map e92 o0_truths)), .d (I o0_lead.weight), .d (I o0_lead.along), .d (I o0_lead.high), .d (.nilMap)])], [(5, .var 4 [.d (.bool false)]), (4, .var 47 [.d (.nilSl)]), (3, .var 47 [.d (.sl 1 (List.map e3 some_))]), (0, .var 83 (catV (cv25 o0_StandBook) [.d (.sl 4 (List.map e92 o0_truths)), .d (I o0_lead.weight), .d (I o0_lead.along), .d (I o0_lead.high), .d (.nilMap)])), (1, .var 25 (cv25 o1)), (2, .var 105 [.clo 83 [] [.ptr 0 0, .ptr 1 0, .ptr 2 0]])], 6, Fr.emp, [], 3⟩ (by kernel_rfl) ?_
      obtain ⟨⟨o0_StandBook1, o0_truths1, o0_lead1⟩, hx_6, h⟩ := bsome h
      refine RW.one fokW (r_callS (zr := []) [] trivial rfl (k84a o0_StandBook o0_truths o0_lead _ hx_6) trivial rfl rfl ⟨.refl _, trivial⟩ rfl rfl rfl (r_end ?_))
      refine RW.nil ?_
      refine hQ_5 _ ?_
      refine AW.block ?_
      obtain ⟨out_7, hx_7, h⟩ := bsome h
      refine AW.rfX (fun (_ : Unit) => [(7, .dm), (5, .var 4 [.d (.bool false)]), (4, .var 47 [.d (.nilSl)]), (3, .var 47 [.d (.sl 1 (List.map e3 some_))]), (0, .var 83 (catV (cv25 o0_StandBook) [.d (.sl 4 (List.map e92 o0_truths)), .d (I o0_lead.weight), .d (I o0_lead.along), .d (I o0_lead.high), .d (.nilMap)])), (1, .var 25 (cv25 o1)), (2, .var 105 [.clo 83 [] [.ptr 0 0, .ptr 1 0, .ptr 2 0]])]) (fun (_ : Unit) => [(7, .dm), (5, .var 4 [.d (.bool true)]), (4, .var 47 [.d (.sl 1 (List.map e3 some_))]), (3, .var 47 [.d (.sl 1 (List.map e3 some_))]), (0, .var 83 (catV (cv25 o0_StandBook) [.d (.sl 4 (List.map e92 o0_truths)), .d (I o0_lead.weight), .d (I o0_lead.along), .d (I o0_lead.high), .d (.nilMap)])), (1, .var 25 (cv25 o1)), (2, .var 105 [.clo 83 [] [.ptr 0 0, .ptr 1 0, .ptr 2 0]])]) (fun _ => some .ret) (g83_r7 some_ o0_StandBook o0_truths o0_lead) (fun (a : (Nat → Int)) => [.agg [.d (I (a 0)), .d (I (a 1)), .d (I (a 2)), .d (I (a 3))]]) (s0 := ()) (out := out_7) [(2, .ptr 0 0), (5, .ptr 3 0), (7, .ptr 4 0), (8, .ptr 5 0)] [(5, .var 4 [.d (.bool false)]), (4, .var 47 [.d (.nilSl)]), (3, .var 47 [.d (.sl 1 (List.map e3 some_))]), (0, .var 83 (catV (cv25 o0_StandBook) [.d (.sl 4 (List.map e92 o0_truths)), .d (I o0_lead.weight), .d (I o0_lead.along), .d (I o0_lead.high), .d (.nilMap)])), (1, .var 25 (cv25 o1)), (2, .var 105 [.clo 83 [] [.ptr 0 0, .ptr 1 0, .ptr 2 0]])] [6] rfl (.clo _ _ _) (by kernel_rfl) (by kernel_rfl) (fun fr_ hY_7 => k98a fr_ _ (fun a s s2 b h => hY_7 a s s2 b h) o0_StandBook1 o0_truths1 o0_lead1 (.next ()) _ hx_7) (by kernel_rfl) ⟨rfl, trivial⟩ rfl ⟨rfl, rfl⟩ rfl rfl (fun _ => rfl) (fun _ => rfl) (fun a_7 s_7 c_7 h l_7 => ?_) (fun _ => rfl) ?_
      · have ⟨a, e_7⟩ : ∃ x, x = a_7 := ⟨_, rfl⟩
        subst e_7
        unfold g83_r7 at h
        refine AW.ra (fokR l_7) [] ⟨[(2, .ptr 0 0), (5, .ptr 3 0), (7, .ptr 4 0), (8, .ptr 5 0), (10, .ptr 8 0)], [(8, .var 92 [.d (I (a 0)), .d (I (a 1)), .d (I (a 2)), .d (I (a 3))]), (7, .dm), (5, .var 4 [.d (.bool false)]), (4, .var 47 [.d (.nilSl)]), (3, .var 47 [.d (.sl 1 (List.map e3 some_))]), (0, .var 83 (catV (cv25 o0_StandBook) [.d (.sl 4 (List.map e92 o0_truths)), .d (I o0_lead.weight), .d (I o0_lead.along), .d (I o0_lead.high), .d (.nilMap)])), (1, .var 25 (cv25 o1)), (2, .var 105 [.clo 83 [] [.ptr 0 0, .ptr 1 0, .ptr 2 0]])], 9, Fr.emp, [], 8⟩ (by kernel_rfl) ?_
        refine AW.block ?_
        refine AW.seqK (fun K_8 hK_8 => ?_)
        refine AW.srwK (fun Q_9 hQ_9 => ?_)
        refine RW.au (fokR l_7) 3 [] ⟨[(5, .ptr 3 0), (7, .ptr 4 0), (8, .ptr 5 0), (23, .agg [.d (I o0_StandBook.Kind), .d (I o0_StandBook.Front), .d (I o0_StandBook.Back), .d (I o0_StandBook.Radius), .d (.sl 4 (List.map e70 o0_StandBook.Parts)), .d (I o0_StandBook.Along), .d (I o0_StandBook.High), .d (I o0_StandBook.Lean_), .d (I o0_StandBook.Limit), .d (.sl 3 (List.map e65 o0_StandBook.Trials)), .d (.sl 4 (List.map e92 o0_truths)), .d (I o0_lead.weight), .d (I o0_lead.along), .d (I o0_lead.high), .d (.nilMap)]), (24, .agg [.d (I (a 0)), .d (I (a 1)), .d (I (a 2)), .d (I (a 3))]), (25, .d (.sl 1 (List.map e3 some_)))], [(7, .dm), (5, .var 4 [.d (.bool false)]), (4, .var 47 [.d (.nilSl)]), (3, .var 47 [.d (.sl 1 (List.map e3 some_))]), (0, .var 83 (catV (cv25 o0_StandBook) [.d (.sl 4 (List.map e92 o0_truths)), .d (I o0_lead.weight), .d (I o0_lead.along), .d (I o0_lead.high), .d (.nilMap)])), (1, .var 25 (cv25 o1)), (2, .var 105 [.clo 83 [] [.ptr 0 0, .ptr 1 0, .ptr 2 0]])], 9, Fr.emp, [], 8⟩ (by kernel_rfl) ?_
        obtain ⟨r0_2, hx_10, h⟩ := bsome h
        refine RW.one (fokR l_7) (r_call trivial rfl (k85a o0_StandBook o0_truths o0_lead a some_ _ hx_10) rfl rfl (r_end ?_))
        refine RW.au (fokR l_7) 1 [] ⟨[(5, .ptr 3 0), (7, .ptr 4 0), (8, .ptr 5 0), (27, .d (.bool (!r0_2)))], [(7, .dm), (5, .var 4 [.d (.bool false)]), (4, .var 47 [.d (.nilSl)]), (3, .var 47 [.d (.sl 1 (List.map e3 some_))]), (0, .var 83 (catV (cv25 o0_StandBook) [.d (.sl 4 (List.map e92 o0_truths)), .d (I o0_lead.weight), .d (I o0_lead.along), .d (I o0_lead.high), .d (.nilMap)])), (1, .var 25 (cv25 o1)), (2, .var 105 [.clo 83 [] [.ptr 0 0, .ptr 1 0, .ptr 2 0]])], 9, Fr.emp, [], 8⟩ (by kernel_rfl) ?_
        refine RW.nil ?_
        refine hQ_9 _ ?_
        refine AW.cond rfl (fun hb_11 => ?_) (fun hb_11 => ?_)
        · have h := ifT hb_11 h
          refine AW.exit ?_
          obtain rfl := Option.some.inj h
          exact ⟨⟨[], [(7, .dm), (5, .var 4 [.d (.bool false)]), (4, .var 47 [.d (.nilSl)]), (3, .var 47 [.d (.sl 1 (List.map e3 some_))]), (0, .var 83 (catV (cv25 o0_StandBook) [.d (.sl 4 (List.map e92 o0_truths)), .d (I o0_lead.weight), .d (I o0_lead.along), .d (I o0_lead.high), .d (.nilMap)])), (1, .var 25 (cv25 o1)), (2, .var 105 [.clo 83 [] [.ptr 0 0, .ptr 1 0, .ptr 2 0]])], 8, Fr.emp, [], 8⟩, Can.kp (by kernel_rfl), rdX trivial rfl (by kernel_rfl) (by kernel_rfl)⟩
        · have h := ifF hb_11 h
          refine AW.skip ?_
          refine hK_8 _ ?_
          refine AW.sa (fokR l_7) [] ⟨[(7, .ptr 4 0), (8, .ptr 5 0)], [(5, .var 4 [.d (.bool true)]), (4, .var 47 [.d (.sl 1 (List.map e3 some_))]), (7, .dm), (3, .var 47 [.d (.sl 1 (List.map e3 some_))]), (0, .var 83 (catV (cv25 o0_StandBook) [.d (.sl 4 (List.map e92 o0_truths)), .d (I o0_lead.weight), .d (I o0_lead.along), .d (I o0_lead.high), .d (.nilMap)])), (1, .var 25 (cv25 o1)), (2, .var 105 [.clo 83 [] [.ptr 0 0, .ptr 1 0, .ptr 2 0]])], 9, Fr.emp, [], 8⟩ (by kernel_rfl) ?_
          refine AW.ret ?_
          obtain rfl := Option.some.inj h
          exact ⟨⟨[], [(7, .dm), (5, .var 4 [.d (.bool true)]), (4, .var 47 [.d (.sl 1 (List.map e3 some_))]), (3, .var 47 [.d (.sl 1 (List.map e3 some_))]), (0, .var 83 (catV (cv25 o0_StandBook) [.d (.sl 4 (List.map e92 o0_truths)), .d (I o0_lead.weight), .d (I o0_lead.along), .d (I o0_lead.high), .d (.nilMap)])), (1, .var 25 (cv25 o1)), (2, .var 105 [.clo 83 [] [.ptr 0 0, .ptr 1 0, .ptr 2 0]])], 8, Fr.emp, [], 8⟩, Can.kp (by kernel_rfl), rdX trivial rfl (by kernel_rfl) (by kernel_rfl)⟩
      · rcases out_7 with _ | _
        · refine hK_4 _ ?_
          refine AW.sa fokW [] ⟨[(7, .ptr 4 0), (8, .ptr 5 0)], [(5, .var 4 [.d (.bool false)]), (4, .var 47 [.d (.nilSl)]), (7, .dm), (0, .var 83 (catV (cv25 o0_StandBook) [.d (.sl 4 (List.map e92 o0_truths)), .d (I o0_lead.weight), .d (I o0_lead.along), .d (I o0_lead.high), .d (.nilMap)])), (1, .var 25 (cv25 o1)), (2, .var 105 [.clo 83 [] [.ptr 0 0, .ptr 1 0, .ptr 2 0]])], 8, Fr.emp, [7], 3⟩ (by kernel_rfl) ?_
          obtain rfl := Option.some.inj h
          exact AW.ret (hR_0 _ (retX (.cons (.one rfl rfl rfl) (.cons (.one rfl rfl rfl) .nil)) (Frz.tup_of ⟨.nil 1, .refl _, trivial⟩) rfl (by kernel_rfl) (by kernel_rfl)))
        · obtain rfl := Option.some.inj h
          exact hR_0 _ (retX (.cons (.one rfl rfl rfl) (.cons (.one rfl rfl rfl) .nil)) (.refl _) rfl (by kernel_rfl) (by kernel_rfl))
    · have h := ifF hb_3 h
      refine AW.skip ?_
      refine hK_2 _ ?_
      refine AW.sa fokW [] ⟨[(1, .d (I many)), (3, .ptr 1 0), (4, .ptr 2 0), (5, .ptr 3 0), (7, .ptr 4 0), (8, .ptr 5 0), (9, .d (I (some_.length : Int))), (11, .d (I 0))], [(5, .var 4 [.d (.bool false)]), (4, .var 47 [.d (.nilSl)]), (3, .var 47 [.d (.sl 1 (List.map e3 some_))]), (0, .var 83 (catV (cv25 o0_StandBook) [.d (.sl 4 (List.map e92 o0_truths)), .d (I o0_lead.weight), .d (I o0_lead.along), .d (I o0_lead.high), .d (.nilMap)])), (1, .var 25 (cv25 o1)), (2, .var 105 [.clo 83 [] [.ptr 0 0, .ptr 1 0, .ptr 2 0]])], 6, Fr.emp, [], 3⟩ (by kernel_rfl) ?_
      obtain ⟨from_, hx_12, h⟩ := bsome h
      refine AW.jnSK (fun (from_ : Int) => ⟨[(1, .d (I many)), (3, .ptr 1 0), (4, .ptr 2 0), (5, .ptr 3 0), (7, .ptr 4 0), (8, .ptr 5 0), (9, .d (I (some_.length : Int))), (11, .d (I from_))], [(5, .var 4 [.d (.bool false)]), (4, .var 47 [.d (.nilSl)]), (3, .var 47 [.d (.sl 1 (List.map e3 some_))]), (0, .var 83 (catV (cv25 o0_StandBook) [.d (.sl 4 (List.map e92 o0_truths)), .d (I o0_lead.weight), .d (I o0_lead.along), .d (I o0_lead.high), .d (.nilMap)])), (1, .var 25 (cv25 o1)), (2, .var 105 [.clo 83 [] [.ptr 0 0, .ptr 1 0, .ptr 2 0]])], 6, Fr.emp, [], 3⟩) (c := from_) (fun K_12 hK_12 => ?_) ?_
      · have h := hx_12
        refine AW.sa fokW [] ⟨[(1, .d (I many)), (3, .ptr 1 0), (4, .ptr 2 0), (5, .ptr 3 0), (7, .ptr 4 0), (8, .ptr 5 0), (9, .d (I (some_.length : Int))), (11, .d (I 0)), (30, .d (.bool (decide (0 < (some_.length : Int)))))], [(5, .var 4 [.d (.bool false)]), (4, .var 47 [.d (.nilSl)]), (3, .var 47 [.d (.sl 1 (List.map e3 some_))]), (0, .var 83 (catV (cv25 o0_StandBook) [.d (.sl 4 (List.map e92 o0_truths)), .d (I o0_lead.weight), .d (I o0_lead.along), .d (I o0_lead.high), .d (.nilMap)])), (1, .var 25 (cv25 o1)), (2, .var 105 [.clo 83 [] [.ptr 0 0, .ptr 1 0, .ptr 2 0]])], 6, Fr.emp, [], 3⟩ (by kernel_rfl) ?_
        refine AW.cond rfl (fun hb_13 => ?_) (fun hb_13 => ?_)
        · have h := ifT hb_13 h
          refine AW.rw ?_
          refine RW.au fokW 3 [] ⟨[(1, .d (I many)), (3, .ptr 1 0), (4, .ptr 2 0), (5, .ptr 3 0), (7, .ptr 4 0), (8, .ptr 5 0), (9, .d (I (some_.length : Int))), (31, .d (.sl 1 (List.map e3 some_))), (33, .d (I (wr ((some_.length : Int) - 1))))], [(5, .var 4 [.d (.bool false)]), (4, .var 47 [.d (.nilSl)]), (3, .var 47 [.d (.sl 1 (List.map e3 some_))]), (0, .var 83 (catV (cv25 o0_StandBook) [.d (.sl 4 (List.map e92 o0_truths)), .d (I o0_lead.weight), .d (I o0_lead.along), .d (I o0_lead.high), .d (.nilMap)])), (1, .var 25 (cv25 o1)), (2, .var 105 [.clo 83 [] [.ptr 0 0, .ptr 1 0, .ptr 2 0]])], 6, Fr.emp, [], 3⟩ (by kernel_rfl) ?_
          obtain ⟨p, hv_15, h⟩ := bsome h
          refine RW.one fokW (r_iaD trivial rfl rfl (ixL_ok hv_15).1 (row := e3 p) (mapget (ixL_ok hv_15).2) (r_end ?_))
          refine RW.au fokW 3 [] ⟨[(1, .d (I many)), (3, .ptr 1 0), (4, .ptr 2 0), (5, .ptr 3 0), (7, .ptr 4 0), (8, .ptr 5 0), (9, .d (I (some_.length : Int))), (11, .d (I (wr (p + 1))))], [(5, .var 4 [.d (.bool false)]), (4, .var 47 [.d (.nilSl)]), (3, .var 47 [.d (.sl 1 (List.map e3 some_))]), (0, .var 83 (catV (cv25 o0_StandBook) [.d (.sl 4 (List.map e92 o0_truths)), .d (I o0_lead.weight), .d (I o0_lead.along), .d (I o0_lead.high), .d (.nilMap)])), (1, .var 25 (cv25 o1)), (2, .var 105 [.clo 83 [] [.ptr 0 0, .ptr 1 0, .ptr 2 0]])], 6, Fr.emp, [], 3⟩ (by kernel_rfl) ?_
          refine RW.nil ?_
          obtain rfl := Option.some.inj h
          exact hK_12 _ (Can.kp (by kernel_rfl))
        · have h := ifF hb_13 h
          refine AW.skip ?_
          obtain rfl := Option.some.inj h
          exact hK_12 _ (Can.kp (by kernel_rfl))
      · obtain ⟨c_16, hx_16, hk_16⟩ := bsomeC h
        refine AW.jnK (fun (_ : Unit) => ⟨[(7, .ptr 4 0), (8, .ptr 5 0)], [(5, .var 4 [.d (.bool false)]), (4, .var 47 [.d (.nilSl)]), (0, .var 83 (catV (cv25 o0_StandBook) [.d (.sl 4 (List.map e92 o0_truths)), .d (I o0_lead.weight), .d (I o0_lead.along), .d (I o0_lead.high), .d (.nilMap)])), (1, .var 25 (cv25 o1)), (2, .var 105 [.clo 83 [] [.ptr 0 0, .ptr 1 0, .ptr 2 0]])], 6, Fr.emp, [], 3⟩) (c := c_16) (fun K_16 hK_16 => ?_) (fun j_16 hj_16 => ?_)
        · have h := hx_16
          refine AW.sa fokW [] ⟨[(1, .d (I many)), (3, .ptr 1 0), (4, .ptr 2 0), (5, .ptr 3 0), (7, .ptr 4 0), (8, .ptr 5 0), (9, .d (I (some_.length : Int))), (12, .d (I from_))], [(5, .var 4 [.d (.bool false)]), (4, .var 47 [.d (.nilSl)]), (3, .var 47 [.d (.sl 1 (List.map e3 some_))]), (0, .var 83 (catV (cv25 o0_StandBook) [.d (.sl 4 (List.map e92 o0_truths)), .d (I o0_lead.weight), .d (I o0_lead.along), .d (I o0_lead.high), .d (.nilMap)])), (1, .var 25 (cv25 o1)), (2, .var 105 [.clo 83 [] [.ptr 0 0, .ptr 1 0, .ptr 2 0]])], 6, Fr.emp, [], 3⟩ (by kernel_rfl) ?_
          obtain ⟨c_17, hx_17, hk_17⟩ := bsomeC h
          refine AW.jqK (fun (_ : Unit) => ⟨[(7, .ptr 4 0), (8, .ptr 5 0)], [(5, .var 4 [.d (.bool false)]), (4, .var 47 [.d (.nilSl)]), (0, .var 83 (catV (cv25 o0_StandBook) [.d (.sl 4 (List.map e92 o0_truths)), .d (I o0_lead.weight), .d (I o0_lead.along), .d (I o0_lead.high), .d (.nilMap)])), (1, .var 25 (cv25 o1)), (2, .var 105 [.clo 83 [] [.ptr 0 0, .ptr 1 0, .ptr 2 0]])], 6, Fr.emp, [], 3⟩) (c := c_17) (fun K_17 hK_17 => ?_) (fun j_17 hj_17 => ?_)
          · have h := hx_17
            refine AW.block ?_
            refine AW.slh (r := 1) (off := 9) rfl rfl (fun hN_18 => ?_)
            rw [List.length_map] at hN_18
            obtain ⟨_, h0_18, h⟩ := bsome h
            have h0_18 := of_decide_eq_true (must_ok h0_18)
            obtain ⟨out_18, hx_18, hk_18⟩ := bsomeC h
            refine AW.lpCK (fun (n : Int) (_ : Unit) => ⟨[(1, .d (I many)), (3, .ptr 1 0), (4, .ptr 2 0), (5, .ptr 3 0), (7, .ptr 4 0), (8, .ptr 5 0), (9, .d (I (some_.length : Int))), (12, .d (I n))], [(5, .var 4 [.d (.bool false)]), (4, .var 47 [.d (.nilSl)]), (3, .var 47 [.d (.sl 1 (List.map e3 some_))]), (0, .var 83 (catV (cv25 o0_StandBook) [.d (.sl 4 (List.map e92 o0_truths)), .d (I o0_lead.weight), .d (I o0_lead.along), .d (I o0_lead.high), .d (.nilMap)])), (1, .var 25 (cv25 o1)), (2, .var 105 [.clo 83 [] [.ptr 0 0, .ptr 1 0, .ptr 2 0]])], 6, Fr.emp, [], 3⟩) (g83_18 (g83 n_) some_ many o0_StandBook o0_truths o0_lead o1) ((o1.Trials.length : Int)) hx_18 (Can.kp (by kernel_rfl)) (fun n s_18 hi_18 hl_18 c_18 h hb_18 K_18 hK_18 => ?_) (fun n s_18 hi_18 hl_18 hout => ?_)
            · unfold g83_18 at h
              refine AW.seqK (fun K_19 hK_19 => ?_)
              refine AW.srwK (fun Q_20 hQ_20 => ?_)
              refine RW.au fokW 3 [] ⟨[(1, .d (I many)), (3, .ptr 1 0), (4, .ptr 2 0), (5, .ptr 3 0), (7, .ptr 4 0), (8, .ptr 5 0), (9, .d (I (some_.length : Int))), (12, .d (I n)), (38, .d (I n)), (40, .d (.sl 3 (List.map e65 o1.Trials)))], [(5, .var 4 [.d (.bool false)]), (4, .var 47 [.d (.nilSl)]), (3, .var 47 [.d (.sl 1 (List.map e3 some_))]), (0, .var 83 (catV (cv25 o0_StandBook) [.d (.sl 4 (List.map e92 o0_truths)), .d (I o0_lead.weight), .d (I o0_lead.along), .d (I o0_lead.high), .d (.nilMap)])), (1, .var 25 (cv25 o1)), (2, .var 105 [.clo 83 [] [.ptr 0 0, .ptr 1 0, .ptr 2 0]])], 6, Fr.emp, [], 3⟩ (by kernel_rfl) ?_
              refine RW.one fokW (r_lenX trivial rfl lenm (r_end ?_))
              refine RW.au fokW 1 [] ⟨[(1, .d (I many)), (3, .ptr 1 0), (4, .ptr 2 0), (5, .ptr 3 0), (7, .ptr 4 0), (8, .ptr 5 0), (9, .d (I (some_.length : Int))), (12, .d (I n)), (42, .d (.bool (decide (n < (o1.Trials.length : Int)))))], [(5, .var 4 [.d (.bool false)]), (4, .var 47 [.d (.nilSl)]), (3, .var 47 [.d (.sl 1 (List.map e3 some_))]), (0, .var 83 (catV (cv25 o0_StandBook) [.d (.sl 4 (List.map e92 o0_truths)), .d (I o0_lead.weight), .d (I o0_lead.along), .d (I o0_lead.high), .d (.nilMap)])), (1, .var 25 (cv25 o1)), (2, .var 105 [.clo 83 [] [.ptr 0 0, .ptr 1 0, .ptr 2 0]])], 6, Fr.emp, [], 3⟩ (by kernel_rfl) ?_
              refine RW.nil ?_
              refine hQ_20 _ ?_
              refine AW.cond rfl (fun hb_21 => ?_) (fun hb_21 => False.elim (by have := of_decide_eq_false hb_21; omega))
              refine AW.skip ?_
              refine hK_19 _ ?_
              refine AW.seqK (fun K_22 hK_22 => ?_)
              refine AW.block ?_
              refine AW.sdrwK fokW (fun Q_23 hQ_23 => ?_)
              refine RunC.auX 4 ⟨[(1, .d (I many)), (3, .ptr 1 0), (4, .ptr 2 0), (5, .ptr 3 0), (7, .ptr 4 0), (8, .ptr 5 0), (9, .d (I (some_.length : Int))), (12, .d (I n)), (46, .clo 83 [] [.ptr 0 0, .ptr 1 0, .ptr 2 0]), (47, .d (.sl 1 (List.map e3 some_))), (48, .d (I (some_.length : Int))), (49, .d (I (some_.length : Int)))], [(5, .var 4 [.d (.bool false)]), (4, .var 47 [.d (.nilSl)]), (3, .var 47 [.d (.sl 1 (List.map e3 some_))]), (0, .var 83 (catV (cv25 o0_StandBook) [.d (.sl 4 (List.map e92 o0_truths)), .d (I o0_lead.weight), .d (I o0_lead.along), .d (I o0_lead.high), .d (.nilMap)])), (1, .var 25 (cv25 o1)), (2, .var 105 [.clo 83 [] [.ptr 0 0, .ptr 1 0, .ptr 2 0]])], 6, Fr.emp, [], 3⟩ (by kernel_rfl) ?_
              obtain ⟨l, hv_24, h⟩ := bsome h
              refine r_slN trivial rfl rfl rfl DSl.d (slcL_ok hv_24).2.1 (by rw [List.length_map]; exact (slcL_ok hv_24).2.2.1) rfl (slz hv_24 e3) ?_
              refine RunC.auX 2 ⟨[(1, .d (I many)), (3, .ptr 1 0), (4, .ptr 2 0), (5, .ptr 3 0), (7, .ptr 4 0), (8, .ptr 5 0), (9, .d (I (some_.length : Int))), (12, .d (I n)), (46, .clo 83 [] [.ptr 0 0, .ptr 1 0, .ptr 2 0]), (50, .fsl 1 (List.map e3 l)), (52, .own 6 (List.map e3 [n]).length)], [(6, .row 3 1 (List.map e3 [n])), (5, .var 4 [.d (.bool false)]), (4, .var 47 [.d (.nilSl)]), (3, .var 47 [.d (.sl 1 (List.map e3 some_))]), (0, .var 83 (catV (cv25 o0_StandBook) [.d (.sl 4 (List.map e92 o0_truths)), .d (I o0_lead.weight), .d (I o0_lead.along), .d (I o0_lead.high), .d (.nilMap)])), (1, .var 25 (cv25 o1)), (2, .var 105 [.clo 83 [] [.ptr 0 0, .ptr 1 0, .ptr 2 0]])], 7, Fr.emp, [], 3⟩ (by kernel_rfl) ?_
              obtain ⟨l1, hv_25, h⟩ := bsome h
              refine r_apF trivial rfl rfl rfl rfl (by simp) (zs := List.map e3 l1) (apz hv_25 e3) (apr hv_25 e3) ?_
              refine RunC.auX 1 ⟨[(1, .d (I many)), (3, .ptr 1 0), (4, .ptr 2 0), (5, .ptr 3 0), (7, .ptr 4 0), (8, .ptr 5 0), (9, .d (I (some_.length : Int))), (12, .d (I n)), (46, .clo 83 [] [.ptr 0 0, .ptr 1 0, .ptr 2 0]), (53, .own 7 (List.map e3 l1).length), (54, .d (I many))], [(7, .row 3 1 (List.map e3 l1)), (6, .row 3 1 (List.map e3 [n])), (5, .var 4 [.d (.bool false)]), (4, .var 47 [.d (.nilSl)]), (3, .var 47 [.d (.sl 1 (List.map e3 some_))]), (0, .var 83 (catV (cv25 o0_StandBook) [.d (.sl 4 (List.map e92 o0_truths)), .d (I o0_lead.weight), .d (I o0_lead.along), .d (I o0_lead.high), .d (.nilMap)])), (1, .var 25 (cv25 o1)), (2, .var 105 [.clo 83 [] [.ptr 0 0, .ptr 1 0, .ptr 2 0]])], 8, Fr.emp, [], 3⟩ (by kernel_rfl) ?_
              obtain ⟨⟨r0_5_1, r1_4_1⟩, hx_26, h⟩ := bsome h
              refine r_callvE (zr := [(7, .row 3 1 (List.map e3 l1))]) [0, 1, 2] trivial rfl (.clo _ _ _) (by kernel_rfl) rfl (ih l1 many o0_StandBook o0_truths o0_lead o1 _ hx_26) ⟨rfl, rfl, rfl, rfl, trivial⟩ rfl rfl ⟨(.own rfl rfl), .refl _, .refl _, .refl _, .refl _, trivial⟩ rfl rfl rfl ?_
              refine RunC.auX 5 ⟨[(1, .d (I many)), (3, .ptr 1 0), (4, .ptr 2 0), (5, .ptr 3 0), (7, .ptr 4 0), (8, .ptr 5 0), (9, .d (I (some_.length : Int))), (12, .d (I n)), (13, .d (.sl 1 (List.map e3 r0_5_1))), (14, .d (.bool r1_4_1))], [(0, .var 83 (catV (cv25 o0_StandBook) [.d (.sl 4 (List.map e92 o0_truths)), .d (I o0_lead.weight), .d (I o0_lead.along), .d (I o0_lead.high), .d (.nilMap)])), (1, .var 25 (cv25 o1)), (2, .var 105 [.clo 83 [] [.ptr 0 0, .ptr 1 0, .ptr 2 0]]), (7, .dead), (6, .row 3 1 (List.map e3 [n])), (5, .var 4 [.d (.bool false)]), (4, .var 47 [.d (.nilSl)]), (3, .var 47 [.d (.sl 1 (List.map e3 some_))])], 8, Fr.emp, [], 3⟩ (by kernel_rfl) ?_
              refine RunC.fin ⟨[(1, .d (I many)), (3, .ptr 1 0), (4, .ptr 2 0), (5, .ptr 3 0), (7, .ptr 4 0), (8, .ptr 5 0), (9, .d (I (some_.length : Int))), (12, .d (I n)), (13, .d (.sl 1 (List.map e3 r0_5_1))), (14, .d (.bool r1_4_1))], [(0, .var 83 (catV (cv25 o0_StandBook) [.d (.sl 4 (List.map e92 o0_truths)), .d (I o0_lead.weight), .d (I o0_lead.along), .d (I o0_lead.high), .d (.nilMap)])), (1, .var 25 (cv25 o1)), (2, .var 105 [.clo 83 [] [.ptr 0 0, .ptr 1 0, .ptr 2 0]]), (5, .var 4 [.d (.bool false)]), (4, .var 47 [.d (.nilSl)]), (3, .var 47 [.d (.sl 1 (List.map e3 some_))])], 8, Fr.emp, [], 3⟩ (by kernel_rfl) (by kernel_rfl) ?_
              refine hQ_23 _ ?_
              refine AW.sa fokW [] ⟨[(1, .d (I many)), (3, .ptr 1 0), (4, .ptr 2 0), (5, .ptr 3 0), (7, .ptr 4 0), (8, .ptr 5 0), (9, .d (I (some_.length : Int))), (12, .d (I n)), (13, .d (.sl 1 (List.map e3 r0_5_1))), (58, .d (.bool r1_4_1))], [(0, .var 83 (catV (cv25 o0_StandBook) [.d (.sl 4 (List.map e92 o0_truths)), .d (I o0_lead.weight), .d (I o0_lead.along), .d (I o0_lead.high), .d (.nilMap)])), (1, .var 25 (cv25 o1)), (2, .var 105 [.clo 83 [] [.ptr 0 0, .ptr 1 0, .ptr 2 0]]), (5, .var 4 [.d (.bool false)]), (4, .var 47 [.d (.nilSl)]), (3, .var 47 [.d (.sl 1 (List.map e3 some_))])], 8, Fr.emp, [], 3⟩ (by kernel_rfl) ?_
              refine AW.cond rfl (fun hb_27 => ?_) (fun hb_27 => ?_)
              · have h := ifT hb_27 h
                refine AW.sa fokW [] ⟨[(7, .ptr 4 0), (8, .ptr 5 0)], [(5, .var 4 [.d (.bool true)]), (4, .var 47 [.d (.sl 1 (List.map e3 r0_5_1))]), (0, .var 83 (catV (cv25 o0_StandBook) [.d (.sl 4 (List.map e92 o0_truths)), .d (I o0_lead.weight), .d (I o0_lead.along), .d (I o0_lead.high), .d (.nilMap)])), (1, .var 25 (cv25 o1)), (2, .var 105 [.clo 83 [] [.ptr 0 0, .ptr 1 0, .ptr 2 0]])], 8, Fr.emp, [], 3⟩ (by kernel_rfl) ?_
                obtain rfl := Option.some.inj h
                have e_3 := hb_18 _ rfl
                subst e_3
                obtain rfl := Aft.bk hk_18
                obtain rfl := Aft.bk hk_17
                obtain rfl := Aft.bk hk_16
                exact AW.ret (hR_0 _ (retX (.cons (.one rfl rfl rfl) (.cons (.one rfl rfl rfl) .nil)) (.refl _) rfl (by kernel_rfl) (by kernel_rfl)))
              · have h := ifF hb_27 h
                refine AW.skip ?_
                refine hK_22 _ ?_
                refine AW.ra fokW [] ⟨[(1, .d (I many)), (3, .ptr 1 0), (4, .ptr 2 0), (5, .ptr 3 0), (7, .ptr 4 0), (8, .ptr 5 0), (9, .d (I (some_.length : Int))), (12, .d (I (wr (n + 1))))], [(0, .var 83 (catV (cv25 o0_StandBook) [.d (.sl 4 (List.map e92 o0_truths)), .d (I o0_lead.weight), .d (I o0_lead.along), .d (I o0_lead.high), .d (.nilMap)])), (1, .var 25 (cv25 o1)), (2, .var 105 [.clo 83 [] [.ptr 0 0, .ptr 1 0, .ptr 2 0]]), (5, .var 4 [.d (.bool false)]), (4, .var 47 [.d (.nilSl)]), (3, .var 47 [.d (.sl 1 (List.map e3 some_))])], 8, Fr.emp, [], 3⟩ (by kernel_rfl) ?_
                obtain rfl := Option.some.inj h
                have ew : wr (n + 1) = n + 1 := inext (N := (o1.Trials.length : Int)) (by omega) (by omega) (by omega)
                rw [ew]
                exact hK_18 _ _ rfl (Can.kp (by kernel_rfl))
            · subst hout
              have h := Aft.nx hk_18
              refine AW.seqK (fun K_28 hK_28 => ?_)
              refine AW.srwK (fun Q_29 hQ_29 => ?_)
              refine RW.au fokW 3 [] ⟨[(1, .d (I many)), (3, .ptr 1 0), (4, .ptr 2 0), (5, .ptr 3 0), (7, .ptr 4 0), (8, .ptr 5 0), (9, .d (I (some_.length : Int))), (12, .d (I n)), (38, .d (I n)), (40, .d (.sl 3 (List.map e65 o1.Trials)))], [(5, .var 4 [.d (.bool false)]), (4, .var 47 [.d (.nilSl)]), (3, .var 47 [.d (.sl 1 (List.map e3 some_))]), (0, .var 83 (catV (cv25 o0_StandBook) [.d (.sl 4 (List.map e92 o0_truths)), .d (I o0_lead.weight), .d (I o0_lead.along), .d (I o0_lead.high), .d (.nilMap)])), (1, .var 25 (cv25 o1)), (2, .var 105 [.clo 83 [] [.ptr 0 0, .ptr 1 0, .ptr 2 0]])], 6, Fr.emp, [], 3⟩ (by kernel_rfl) ?_
              refine RW.one fokW (r_lenX trivial rfl lenm (r_end ?_))
              refine RW.au fokW 1 [] ⟨[(1, .d (I many)), (3, .ptr 1 0), (4, .ptr 2 0), (5, .ptr 3 0), (7, .ptr 4 0), (8, .ptr 5 0), (9, .d (I (some_.length : Int))), (12, .d (I n)), (42, .d (.bool (decide (n < (o1.Trials.length : Int)))))], [(5, .var 4 [.d (.bool false)]), (4, .var 47 [.d (.nilSl)]), (3, .var 47 [.d (.sl 1 (List.map e3 some_))]), (0, .var 83 (catV (cv25 o0_StandBook) [.d (.sl 4 (List.map e92 o0_truths)), .d (I o0_lead.weight), .d (I o0_lead.along), .d (I o0_lead.high), .d (.nilMap)])), (1, .var 25 (cv25 o1)), (2, .var 105 [.clo 83 [] [.ptr 0 0, .ptr 1 0, .ptr 2 0]])], 6, Fr.emp, [], 3⟩ (by kernel_rfl) ?_
              refine RW.nil ?_
              refine hQ_29 _ ?_
              refine AW.cond rfl (fun hb_30 => False.elim (by have := of_decide_eq_true hb_30; omega)) (fun hb_30 => ?_)
              refine AW.exit ?_
              obtain rfl := Option.some.inj h
              exact hK_17 _ _ rfl (Can.kp (by kernel_rfl))
          · subst hj_17
            have h := Aft.nx hk_17
            obtain rfl := Option.some.inj h
            exact hK_16 _ _ rfl (Can.kp (by kernel_rfl))
        · subst hj_16
          have h := Aft.nx hk_16
          refine AW.sa fokW [] ⟨[(7, .ptr 4 0), (8, .ptr 5 0)], [(5, .var 4 [.d (.bool false)]), (4, .var 47 [.d (.nilSl)]), (0, .var 83 (catV (cv25 o0_StandBook) [.d (.sl 4 (List.map e92 o0_truths)), .d (I o0_lead.weight), .d (I o0_lead.along), .d (I o0_lead.high), .d (.nilMap)])), (1, .var 25 (cv25 o1)), (2, .var 105 [.clo 83 [] [.ptr 0 0, .ptr 1 0, .ptr 2 0]])], 6, Fr.emp, [], 3⟩ (by kernel_rfl) ?_
          obtain rfl := Option.some.inj h
          exact AW.ret (hR_0 _ (retX (.cons (.one rfl rfl rfl) (.cons (.one rfl rfl rfl) .nil)) (Frz.tup_of ⟨.nil 1, .refl _, trivial⟩) rfl (by kernel_rfl) (by kernel_rfl)))
def g35_7 (x : StandBook) : Int → ((List (Nat → Int)) × Int × Int × Int) → Option (Ctl ((List (Nat → Int)) × Int × Int × Int) ((List Int) × Int)) := fun v (truths, weight, along, high) => (g83 1000 ([] : (List Int)) v x truths (Stand_load.mk weight along high) x).bind fun (r0_5, r1_4) => bif r1_4 then ((slcL r0_5 0 (r0_5.length : Int)).bind fun l => some (.brk (l, 0))) else (some (.next (truths, (Stand_load.mk weight along high).weight, (Stand_load.mk weight along high).along, (Stand_load.mk weight along high).high)))
def g35 (x : StandBook) : Option ((List Int) × Int) := (g18 x).bind fun A1 => bif (decide (A1 ≠ 0)) then (some ([], A1)) else (bindC (forC (g35_7 x) ((((wr ((x.Trials.length : Int) + 1)) : Int) - 0).toNat) 0 (([], 0, 0, 0) : (List (Nat → Int)) × Int × Int × Int)) fun (truths, weight, along, high) => some ([], 0))
theorem k35 (x : StandBook) (r : (List Int) × Int) (h : g35 x = some r) : SCall Tryd.prog Gs 35 [.agg [.d (I x.Kind), .d (I x.Front), .d (I x.Back), .d (I x.Radius), .d (.sl 4 (List.map e70 x.Parts)), .d (I x.Along), .d (I x.High), .d (I x.Lean_), .d (I x.Limit), .d (.sl 3 (List.map e65 x.Trials))]] [] 0 Fr.emp (match r with | (r0_2, r1_2) => .tup [.d (.sl 1 (List.map e3 r0_2)), .d (I r1_2)]) [] 0 Fr.emp := by
  unfold g35 at h
  refine SCall.mkK Tryd.func35 c35 rfl rfl (by kernel_rfl) (fun Q_0 hR_0 hN_0 => ?_)
  refine AW.sa fokW [] ⟨[(1, .ptr 0 0)], [(0, .var 25 (cv25 x))], 1, Fr.emp, [], 0⟩ (by kernel_rfl) ?_
  refine AW.seqK (fun K_1 hK_1 => ?_)
  refine AW.srwK (fun Q_2 hQ_2 => ?_)
  refine RW.au fokW 1 [] ⟨[(1, .ptr 0 0), (10, .agg [.d (I x.Kind), .d (I x.Front), .d (I x.Back), .d (I x.Radius), .d (.sl 4 (List.map e70 x.Parts)), .d (I x.Along), .d (I x.High), .d (I x.Lean_), .d (I x.Limit), .d (.sl 3 (List.map e65 x.Trials))])], [(0, .var 25 (cv25 x))], 1, Fr.emp, [], 0⟩ (by kernel_rfl) ?_
  obtain ⟨A1, hx_3, h⟩ := bsome h
  refine RW.one fokW (r_call trivial rfl (k18 x _ hx_3) rfl rfl (r_end ?_))
  refine RW.au fokW 1 [] ⟨[(1, .ptr 0 0), (4, .d (I A1))], [(0, .var 25 (cv25 x))], 1, Fr.emp, [], 0⟩ (by kernel_rfl) ?_
  refine RW.nil ?_
  refine hQ_2 _ ?_
  refine AW.sa fokW [] ⟨[(1, .ptr 0 0), (4, .d (I A1)), (13, .d (.bool (decide (A1 ≠ 0))))], [(0, .var 25 (cv25 x))], 1, Fr.emp, [], 0⟩ (by kernel_rfl) ?_
  refine AW.cond rfl (fun hb_4 => ?_) (fun hb_4 => ?_)
  · have h := ifT hb_4 h
    refine AW.sa fokW [] ⟨[(2, .d (.nilSl)), (3, .d (I A1))], [], 1, Fr.emp, [], 0⟩ (by kernel_rfl) ?_
    obtain rfl := Option.some.inj h
    exact AW.ret (hR_0 _ (retX (.cons (.tmp rfl) (.cons (.tmp rfl) .nil)) (Frz.tup_of ⟨.nil 1, .refl _, trivial⟩) rfl (by kernel_rfl) (by kernel_rfl)))
  · have h := ifF hb_4 h
    refine AW.skip ?_
    refine hK_1 _ ?_
    refine AW.sa fokW [] ⟨[(1, .ptr 0 0), (5, .ptr 1 0)], [(1, .var 83 (catV (cv25 x) [.d (.nilSl), .d (I 0), .d (I 0), .d (I 0), .d (.nilMap)])), (0, .var 25 (cv25 x))], 2, Fr.emp, [], 0⟩ (by kernel_rfl) ?_
    refine AW.sa fokW [] ⟨[(1, .ptr 0 0), (5, .ptr 1 0), (6, .ptr 2 0)], [(2, .var 105 [.d (.nilFn)]), (1, .var 83 (catV (cv25 x) [.d (.nilSl), .d (I 0), .d (I 0), .d (I 0), .d (.nilMap)])), (0, .var 25 (cv25 x))], 3, Fr.emp, [], 0⟩ (by kernel_rfl) ?_
    refine AW.sa fokW [] ⟨[(1, .ptr 0 0), (6, .ptr 2 0)], [(2, .var 105 [.clo 83 [] [.ptr 1 0, .ptr 0 0, .ptr 2 0]]), (1, .var 83 (catV (cv25 x) [.d (.nilSl), .d (I 0), .d (I 0), .d (I 0), .d (.nilMap)])), (0, .var 25 (cv25 x))], 3, Fr.emp, [], 0⟩ (by kernel_rfl) ?_
    refine AW.seqK (fun K_5 hK_5 => ?_)
    refine AW.srwK (fun Q_6 hQ_6 => ?_)
    refine RW.au fokW 2 [] ⟨[(6, .ptr 2 0), (19, .d (.sl 3 (List.map e65 x.Trials)))], [(2, .var 105 [.clo 83 [] [.ptr 1 0, .ptr 0 0, .ptr 2 0]]), (1, .var 83 (catV (cv25 x) [.d (.nilSl), .d (I 0), .d (I 0), .d (I 0), .d (.nilMap)])), (0, .var 25 (cv25 x))], 3, Fr.emp, [], 0⟩ (by kernel_rfl) ?_
    refine RW.one fokW (r_lenX trivial rfl lenm (r_end ?_))
    refine RW.au fokW 2 [] ⟨[(6, .ptr 2 0), (21, .d (I (wr ((x.Trials.length : Int) + 1)))), (22, .d (I 0))], [(2, .var 105 [.clo 83 [] [.ptr 1 0, .ptr 0 0, .ptr 2 0]]), (1, .var 83 (catV (cv25 x) [.d (.nilSl), .d (I 0), .d (I 0), .d (I 0), .d (.nilMap)])), (0, .var 25 (cv25 x))], 3, Fr.emp, [], 0⟩ (by kernel_rfl) ?_
    refine RW.nil ?_
    refine hQ_6 _ ?_
    refine AW.block ?_
    have hN_7 : (wr ((x.Trials.length : Int) + 1)) ≤ 9223372036854775807 := (wr_range _).2
    obtain ⟨out_7, hx_7, hk_7⟩ := bsomeC h
    refine AW.lpCK (fun (v : Int) (⟨truths, weight, along, high⟩ : (List (Nat → Int)) × Int × Int × Int) => ⟨[(6, .ptr 2 0), (21, .d (I (wr ((x.Trials.length : Int) + 1)))), (22, .d (I v))], [(2, .var 105 [.clo 83 [] [.ptr 1 0, .ptr 0 0, .ptr 2 0]]), (1, .var 83 (catV (cv25 x) [.d (.sl 4 (List.map e92 truths)), .d (I weight), .d (I along), .d (I high), .d (.nilMap)])), (0, .var 25 (cv25 x))], 3, Fr.emp, [], 0⟩) (g35_7 x) ((wr ((x.Trials.length : Int) + 1))) hx_7 (Can.trans (Can.wkH 1 10 4 rfl rfl) (Can.kp (by kernel_rfl))) (fun v s_7 hi_7 hl_7 c_7 h hb_7 K_7 hK_7 => ?_) (fun v s_7 hi_7 hl_7 hout => ?_)
    · obtain ⟨truths, weight, along, high⟩ := s_7
      unfold g35_7 at h
      refine AW.sa fokW [] ⟨[(6, .ptr 2 0), (21, .d (I (wr ((x.Trials.length : Int) + 1)))), (22, .d (I v)), (23, .d (.bool (decide (v < (wr ((x.Trials.length : Int) + 1))))))], [(2, .var 105 [.clo 83 [] [.ptr 1 0, .ptr 0 0, .ptr 2 0]]), (1, .var 83 (catV (cv25 x) [.d (.sl 4 (List.map e92 truths)), .d (I weight), .d (I along), .d (I high), .d (.nilMap)])), (0, .var 25 (cv25 x))], 3, Fr.emp, [], 0⟩ (by kernel_rfl) ?_
      refine AW.seqK (fun K_8 hK_8 => ?_)
      refine AW.cond rfl (fun hb_9 => ?_) (fun hb_9 => False.elim (by have := of_decide_eq_false hb_9; omega))
      refine AW.skip ?_
      refine hK_8 _ ?_
      refine AW.seqK (fun K_10 hK_10 => ?_)
      refine AW.block ?_
      refine AW.sa fokW [] ⟨[(6, .ptr 2 0), (7, .d (I v)), (21, .d (I (wr ((x.Trials.length : Int) + 1)))), (22, .d (I v))], [(2, .var 105 [.clo 83 [] [.ptr 1 0, .ptr 0 0, .ptr 2 0]]), (1, .var 83 (catV (cv25 x) [.d (.sl 4 (List.map e92 truths)), .d (I weight), .d (I along), .d (I high), .d (.nilMap)])), (0, .var 25 (cv25 x))], 3, Fr.emp, [], 0⟩ (by kernel_rfl) ?_
      refine AW.srwK (fun Q_11 hQ_11 => ?_)
      refine RW.au fokW 2 [] ⟨[(6, .ptr 2 0), (21, .d (I (wr ((x.Trials.length : Int) + 1)))), (22, .d (I v)), (26, .clo 83 [] [.ptr 1 0, .ptr 0 0, .ptr 2 0]), (27, .d (I v))], [(2, .var 105 [.clo 83 [] [.ptr 1 0, .ptr 0 0, .ptr 2 0]]), (1, .var 83 (catV (cv25 x) [.d (.sl 4 (List.map e92 truths)), .d (I weight), .d (I along), .d (I high), .d (.nilMap)])), (0, .var 25 (cv25 x))], 3, Fr.emp, [], 0⟩ (by kernel_rfl) ?_
      obtain ⟨⟨r0_5, r1_4⟩, hx_12, h⟩ := bsome h
      refine RW.one fokW (r_callvE (zr := []) [1, 0, 2] trivial rfl (.clo _ _ _) (by kernel_rfl) rfl (k83 1000 ([] : (List Int)) v x truths (Stand_load.mk weight along high) x _ hx_12) ⟨rfl, rfl, rfl, trivial⟩ rfl rfl ⟨(.nil 1), .refl _, .refl _, .refl _, .refl _, trivial⟩ rfl rfl rfl (r_end ?_))
      refine RW.au fokW 5 [] ⟨[(6, .ptr 2 0), (8, .d (.sl 1 (List.map e3 r0_5))), (9, .d (.bool r1_4)), (21, .d (I (wr ((x.Trials.length : Int) + 1)))), (22, .d (I v))], [(1, .var 83 (catV (cv25 x) [.d (.sl 4 (List.map e92 truths)), .d (I ((Stand_load.mk weight along high).weight)), .d (I ((Stand_load.mk weight along high).along)), .d (I ((Stand_load.mk weight along high).high)), .d (.nilMap)])), (0, .var 25 (cv25 x)), (2, .var 105 [.clo 83 [] [.ptr 1 0, .ptr 0 0, .ptr 2 0]])], 3, Fr.emp, [], 0⟩ (by kernel_rfl) ?_
      refine RW.nil ?_
      refine hQ_11 _ ?_
      refine AW.sa fokW [] ⟨[(6, .ptr 2 0), (8, .d (.sl 1 (List.map e3 r0_5))), (21, .d (I (wr ((x.Trials.length : Int) + 1)))), (22, .d (I v)), (31, .d (.bool r1_4))], [(1, .var 83 (catV (cv25 x) [.d (.sl 4 (List.map e92 truths)), .d (I ((Stand_load.mk weight along high).weight)), .d (I ((Stand_load.mk weight along high).along)), .d (I ((Stand_load.mk weight along high).high)), .d (.nilMap)])), (0, .var 25 (cv25 x)), (2, .var 105 [.clo 83 [] [.ptr 1 0, .ptr 0 0, .ptr 2 0]])], 3, Fr.emp, [], 0⟩ (by kernel_rfl) ?_
      refine AW.cond rfl (fun hb_13 => ?_) (fun hb_13 => ?_)
      · have h := ifT hb_13 h
        refine AW.srwK (fun Q_14 hQ_14 => ?_)
        refine RW.au fokW 2 [] ⟨[(8, .d (.sl 1 (List.map e3 r0_5))), (32, .d (.sl 1 (List.map e3 r0_5))), (33, .d (.sl 1 (List.map e3 r0_5)))], [], 3, Fr.emp, [], 0⟩ (by kernel_rfl) ?_
        refine RW.one fokW (r_lenX trivial rfl lenm (r_end ?_))
        refine RW.au fokW 1 [] ⟨[(32, .d (.sl 1 (List.map e3 r0_5))), (34, .d (I (r0_5.length : Int))), (35, .d (.sl 1 (List.map e3 r0_5)))], [], 3, Fr.emp, [], 0⟩ (by kernel_rfl) ?_
        refine RW.one fokW (r_lenX trivial rfl lenm (r_end ?_))
        obtain ⟨l, hv_15, h⟩ := bsome h
        refine RW.one fokW (r_slN trivial rfl rfl rfl DSl.d (slcL_ok hv_15).2.1 (by rw [List.length_map]; exact (slcL_ok hv_15).2.2.1) rfl (slz hv_15 e3) (r_end ?_))
        refine RW.au fokW 2 [] ⟨[(2, .fsl 1 (List.map e3 l)), (3, .d (I 0))], [], 3, Fr.emp, [], 0⟩ (by kernel_rfl) ?_
        refine RW.nil ?_
        refine hQ_14 _ ?_
        obtain rfl := Option.some.inj h
        have e_1 := hb_7 _ rfl
        subst e_1
        obtain rfl := Aft.bk hk_7
        exact AW.ret (hR_0 _ (retX (.cons (.tmp rfl) (.cons (.tmp rfl) .nil)) (Frz.tup_of ⟨.fsl _ _, .refl _, trivial⟩) rfl (by kernel_rfl) (by kernel_rfl)))
      · have h := ifF hb_13 h
        refine AW.skip ?_
        refine hK_10 _ ?_
        refine AW.ra fokW [] ⟨[(6, .ptr 2 0), (21, .d (I (wr ((x.Trials.length : Int) + 1)))), (22, .d (I (wr (v + 1))))], [(1, .var 83 (catV (cv25 x) [.d (.sl 4 (List.map e92 truths)), .d (I ((Stand_load.mk weight along high).weight)), .d (I ((Stand_load.mk weight along high).along)), .d (I ((Stand_load.mk weight along high).high)), .d (.nilMap)])), (0, .var 25 (cv25 x)), (2, .var 105 [.clo 83 [] [.ptr 1 0, .ptr 0 0, .ptr 2 0]])], 3, Fr.emp, [], 0⟩ (by kernel_rfl) ?_
        obtain rfl := Option.some.inj h
        have ew : wr (v + 1) = v + 1 := inext (N := (wr ((x.Trials.length : Int) + 1))) (by omega) (by omega) (by omega)
        rw [ew]
        exact hK_7 _ _ rfl (Can.kp (by kernel_rfl))
    · obtain ⟨truths, weight, along, high⟩ := s_7
      subst hout
      have h := Aft.nx hk_7
      refine AW.sa fokW [] ⟨[(6, .ptr 2 0), (21, .d (I (wr ((x.Trials.length : Int) + 1)))), (22, .d (I v)), (23, .d (.bool (decide (v < (wr ((x.Trials.length : Int) + 1))))))], [(2, .var 105 [.clo 83 [] [.ptr 1 0, .ptr 0 0, .ptr 2 0]]), (1, .var 83 (catV (cv25 x) [.d (.sl 4 (List.map e92 truths)), .d (I weight), .d (I along), .d (I high), .d (.nilMap)])), (0, .var 25 (cv25 x))], 3, Fr.emp, [], 0⟩ (by kernel_rfl) ?_
      refine AW.seqK (fun K_16 hK_16 => ?_)
      refine AW.cond rfl (fun hb_17 => False.elim (by have := of_decide_eq_true hb_17; omega)) (fun hb_17 => ?_)
      refine AW.exit ?_
      refine hK_5 _ ?_
      refine AW.sa fokW [] ⟨[(2, .d (.nilSl)), (3, .d (I 0))], [], 3, Fr.emp, [], 0⟩ (by kernel_rfl) ?_
      obtain rfl := Option.some.inj h
      exact AW.ret (hR_0 _ (retX (.cons (.tmp rfl) (.cons (.tmp rfl) .nil)) (Frz.tup_of ⟨.nil 1, .refl _, trivial⟩) rfl (by kernel_rfl) (by kernel_rfl)))
def g25 (x : StandBook) (weight : Int) : Option (Bool × Int) := (g68 x weight).bind fun r0_1 => (g67 x r0_1).bind fun r_11 => match r_11 with | .next (r0_StandBook5, r0_truths5, r0_lead5, r1_2) => (must (decide (r1_2 ≠ 0))).bind fun _ => some (false, r1_2) | .brk (r0_StandBook6, r0_truths6, r0_lead6, r1_3, m4_1) => bif (decide (r1_3 ≠ 0)) then (some (false, r1_3)) else ((g76a r0_StandBook6 r0_truths6 r0_lead6 weight m4_1).bind fun (r0, m0_1) => some (r0, 0))
theorem k25 (x : StandBook) (weight : Int) (r : Bool × Int) (h : g25 x weight = some r) : SCall Tryd.prog Gs 25 [.agg [.d (I x.Kind), .d (I x.Front), .d (I x.Back), .d (I x.Radius), .d (.sl 4 (List.map e70 x.Parts)), .d (I x.Along), .d (I x.High), .d (I x.Lean_), .d (I x.Limit), .d (.sl 3 (List.map e65 x.Trials))], .d (I weight)] [] 0 Fr.emp (match r with | (r0_4, r1_4) => .tup [.d (.bool r0_4), .d (I r1_4)]) [] 0 Fr.emp := by
  unfold g25 at h
  refine SCall.mkK Tryd.func25 c25 rfl rfl (by kernel_rfl) (fun Q_0 hR_0 hN_0 => ?_)
  refine AW.sa fokW [] ⟨[(1, .d (I weight)), (2, .ptr 0 0)], [(0, .var 25 (cv25 x))], 1, Fr.emp, [], 0⟩ (by kernel_rfl) ?_
  refine AW.sdrwK fokW (fun Q_1 hQ_1 => ?_)
  refine RunC.auX 3 ⟨[(1, .d (I weight)), (9, .agg [.d (I x.Kind), .d (I x.Front), .d (I x.Back), .d (I x.Radius), .d (.sl 4 (List.map e70 x.Parts)), .d (I x.Along), .d (I x.High), .d (I x.Lean_), .d (I x.Limit), .d (.sl 3 (List.map e65 x.Trials))]), (10, .agg [.d (I x.Kind), .d (I x.Front), .d (I x.Back), .d (I x.Radius), .d (.sl 4 (List.map e70 x.Parts)), .d (I x.Along), .d (I x.High), .d (I x.Lean_), .d (I x.Limit), .d (.sl 3 (List.map e65 x.Trials))]), (11, .d (I weight))], [(0, .var 25 (cv25 x))], 1, Fr.emp, [], 0⟩ (by kernel_rfl) ?_
  obtain ⟨r0_1, hx_2, h⟩ := bsome h
  refine r_call trivial rfl (k68 x weight _ hx_2) rfl rfl ?_
  obtain ⟨r_11, hx_3, h⟩ := bsome h
  rcases r_11 with (⟨r0_StandBook5, r0_truths5, r0_lead5, r1_2⟩ | (⟨r0_StandBook6, r0_truths6, r0_lead6, r1_3, m4_1⟩))
  · refine r_callS (zr := []) [] trivial rfl (k67 x r0_1 _ hx_3) trivial rfl rfl ⟨.refl _, .refl _, trivial⟩ rfl rfl rfl ?_
    obtain ⟨_, hv_4, h⟩ := bsome h
    have hf_5 := must_ok hv_4
    refine RunC.auX 6 ⟨[(1, .d (I weight)), (6, .ptr 1 0), (7, .d (I r1_2))], [(1, .var 83 (catV (cv25 r0_StandBook5) [.d (.sl 4 (List.map e92 r0_truths5)), .d (I r0_lead5.weight), .d (I r0_lead5.along), .d (I r0_lead5.high), .d (.nilMap)])), (0, .var 25 (cv25 x))], 2, Fr.emp, [], 0⟩ (by kernel_rfl) ?_
    refine RunC.fin ⟨[(1, .d (I weight)), (6, .ptr 1 0), (7, .d (I r1_2))], [(1, .var 83 (catV (cv25 r0_StandBook5) [.d (.sl 4 (List.map e92 r0_truths5)), .d (I r0_lead5.weight), .d (I r0_lead5.along), .d (I r0_lead5.high), .d (.nilMap)]))], 2, Fr.emp, [], 0⟩ (by kernel_rfl) (by kernel_rfl) ?_
    refine hQ_1 _ ?_
    refine AW.seqK (fun K_6 hK_6 => ?_)
    refine AW.sa fokW [] ⟨[(1, .d (I weight)), (6, .ptr 1 0), (7, .d (I r1_2)), (17, .d (.bool (decide (r1_2 ≠ 0))))], [(1, .var 83 (catV (cv25 r0_StandBook5) [.d (.sl 4 (List.map e92 r0_truths5)), .d (I r0_lead5.weight), .d (I r0_lead5.along), .d (I r0_lead5.high), .d (.nilMap)]))], 2, Fr.emp, [], 0⟩ (by kernel_rfl) ?_
    refine AW.cond rfl (fun hb_7 => ?_) (fun hb_7 => False.elim (by rw [hf_5] at hb_7; cases hb_7))
    refine AW.sa fokW [] ⟨[(4, .d (.bool false)), (5, .d (I r1_2))], [], 2, Fr.emp, [], 0⟩ (by kernel_rfl) ?_
    obtain rfl := Option.some.inj h
    exact AW.ret (hR_0 _ (retX (.cons (.tmp rfl) (.cons (.tmp rfl) .nil)) (.refl _) rfl (by kernel_rfl) (by kernel_rfl)))
  · refine r_callS (zr := []) [] trivial rfl (k67 x r0_1 _ hx_3) trivial rfl rfl ⟨.refl _, .refl _, trivial⟩ rfl rfl rfl ?_
    refine RunC.auX 6 ⟨[(1, .d (I weight)), (6, .ptr 6 0), (7, .d (I r1_3))], [(6, .var 83 (catV (cv25 r0_StandBook6) [.d (.sl 4 (List.map e92 r0_truths6)), .d (I r0_lead6.weight), .d (I r0_lead6.along), .d (I r0_lead6.high), .map 5])), (5, .mp (List.map m94_34 m4_1)), (0, .var 25 (cv25 x))], 7, Fr.emp, [], 0⟩ (by kernel_rfl) ?_
    refine RunC.fin ⟨[(1, .d (I weight)), (6, .ptr 6 0), (7, .d (I r1_3))], [(6, .var 83 (catV (cv25 r0_StandBook6) [.d (.sl 4 (List.map e92 r0_truths6)), .d (I r0_lead6.weight), .d (I r0_lead6.along), .d (I r0_lead6.high), .map 5])), (5, .mp (List.map m94_34 m4_1))], 7, Fr.emp, [], 0⟩ (by kernel_rfl) (by kernel_rfl) ?_
    refine hQ_1 _ ?_
    refine AW.seqK (fun K_8 hK_8 => ?_)
    refine AW.sa fokW [] ⟨[(1, .d (I weight)), (6, .ptr 6 0), (7, .d (I r1_3)), (17, .d (.bool (decide (r1_3 ≠ 0))))], [(6, .var 83 (catV (cv25 r0_StandBook6) [.d (.sl 4 (List.map e92 r0_truths6)), .d (I r0_lead6.weight), .d (I r0_lead6.along), .d (I r0_lead6.high), .map 5])), (5, .mp (List.map m94_34 m4_1))], 7, Fr.emp, [], 0⟩ (by kernel_rfl) ?_
    refine AW.cond rfl (fun hb_9 => ?_) (fun hb_9 => ?_)
    · have h := ifT hb_9 h
      refine AW.sa fokW [] ⟨[(4, .d (.bool false)), (5, .d (I r1_3))], [], 7, Fr.emp, [], 0⟩ (by kernel_rfl) ?_
      obtain rfl := Option.some.inj h
      exact AW.ret (hR_0 _ (retX (.cons (.tmp rfl) (.cons (.tmp rfl) .nil)) (.refl _) rfl (by kernel_rfl) (by kernel_rfl)))
    · have h := ifF hb_9 h
      refine AW.skip ?_
      refine hK_8 _ ?_
      refine AW.srwK (fun Q_10 hQ_10 => ?_)
      refine RW.au fokW 2 [] ⟨[(19, .agg [.d (I r0_StandBook6.Kind), .d (I r0_StandBook6.Front), .d (I r0_StandBook6.Back), .d (I r0_StandBook6.Radius), .d (.sl 4 (List.map e70 r0_StandBook6.Parts)), .d (I r0_StandBook6.Along), .d (I r0_StandBook6.High), .d (I r0_StandBook6.Lean_), .d (I r0_StandBook6.Limit), .d (.sl 3 (List.map e65 r0_StandBook6.Trials)), .d (.sl 4 (List.map e92 r0_truths6)), .d (I r0_lead6.weight), .d (I r0_lead6.along), .d (I r0_lead6.high), .map 5]), (20, .d (I weight))], [(5, .mp (List.map m94_34 m4_1))], 7, Fr.emp, [], 0⟩ (by kernel_rfl) ?_
      obtain ⟨⟨r0, m0_1⟩, hx_11, h⟩ := bsome h
      refine RW.one fokW (r_callS (zr := []) [5] trivial rfl (k76a r0_StandBook6 r0_truths6 r0_lead6 weight m4_1 _ hx_11) ⟨rfl, trivial⟩ rfl rfl ⟨.refl _, .refl _, trivial⟩ rfl rfl rfl (r_end ?_))
      refine RW.au fokW 2 [] ⟨[(4, .d (.bool r0)), (5, .d (I 0))], [], 7, Fr.emp, [], 0⟩ (by kernel_rfl) ?_
      refine RW.nil ?_
      refine hQ_10 _ ?_
      obtain rfl := Option.some.inj h
      exact AW.ret (hR_0 _ (retX (.cons (.tmp rfl) (.cons (.tmp rfl) .nil)) (.refl _) rfl (by kernel_rfl) (by kernel_rfl)))
def g56  : Option StandBook := (g55).bind fun r0 => some (StandBook.mk 1 12 12 60 r0.Parts r0.Along r0.High r0.Lean_ r0.Limit r0.Trials)
theorem k56  (r : StandBook) (h : g56 = some r) : SCall Tryd.prog Gs 56 [] [] 0 Fr.emp (.agg [.d (I r.Kind), .d (I r.Front), .d (I r.Back), .d (I r.Radius), .d (.sl 4 (List.map e70 r.Parts)), .d (I r.Along), .d (I r.High), .d (I r.Lean_), .d (I r.Limit), .d (.sl 3 (List.map e65 r.Trials))]) [] 0 Fr.emp := by
  unfold g56 at h
  refine SCall.mkK Tryd.func56 c56 rfl rfl (by kernel_rfl) (fun Q_0 hR_0 hN_0 => ?_)
  refine AW.sa fokW [] ⟨[(0, .ptr 0 0)], [(0, .var 25 [.d (I 0), .d (I 0), .d (I 0), .d (I 0), .d (.nilSl), .d (I 0), .d (I 0), .d (I 0), .d (I 0), .d (.nilSl)])], 1, Fr.emp, [], 0⟩ (by kernel_rfl) ?_
  refine AW.srwK (fun Q_1 hQ_1 => ?_)
  obtain ⟨r0, hx_2, h⟩ := bsome h
  refine RW.one fokW (r_call trivial rfl (k55 _ hx_2) rfl rfl (r_end ?_))
  refine RW.au fokW 2 [] ⟨[(0, .ptr 0 0), (1, .ptr 1 0)], [(1, .var 25 (cv25 r0)), (0, .var 25 [.d (I 0), .d (I 0), .d (I 0), .d (I 0), .d (.nilSl), .d (I 0), .d (I 0), .d (I 0), .d (I 0), .d (.nilSl)])], 2, Fr.emp, [], 0⟩ (by kernel_rfl) ?_
  refine RW.nil ?_
  refine hQ_1 _ ?_
  refine AW.sa fokW [] ⟨[(0, .ptr 0 0), (1, .ptr 1 0)], [(1, .var 25 [.d (I 1), .d (I 12), .d (I 12), .d (I 60), .d (.sl 4 (List.map e70 r0.Parts)), .d (I r0.Along), .d (I r0.High), .d (I r0.Lean_), .d (I r0.Limit), .d (.sl 3 (List.map e65 r0.Trials))]), (0, .var 25 [.d (I 0), .d (I 0), .d (I 0), .d (I 0), .d (.nilSl), .d (I 0), .d (I 0), .d (I 0), .d (I 0), .d (.nilSl)])], 2, Fr.emp, [], 0⟩ (by kernel_rfl) ?_
  refine AW.sa fokW [] ⟨[(0, .ptr 0 0)], [(0, .var 25 [.d (I 1), .d (I 12), .d (I 12), .d (I 60), .d (.sl 4 (List.map e70 r0.Parts)), .d (I r0.Along), .d (I r0.High), .d (I r0.Lean_), .d (I r0.Limit), .d (.sl 3 (List.map e65 r0.Trials))])], 2, Fr.emp, [], 0⟩ (by kernel_rfl) ?_
  obtain rfl := Option.some.inj h
  exact AW.ret (hR_0 _ (retX (.cons (.agg rfl rfl (Nat.le_of_ble_eq_true rfl)) .nil) (.refl _) rfl (by kernel_rfl) (by kernel_rfl)))
end Go.Proofs.Tz
