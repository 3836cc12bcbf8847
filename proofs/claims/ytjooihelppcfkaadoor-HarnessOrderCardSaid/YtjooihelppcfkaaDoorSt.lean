/- HarnessOrder: the row and the card. Conditions: none. -/
import Derived.Test.YtjooihelppcfkaaDoorPl
set_option linter.unusedVariables false
set_option linter.unusedSimpArgs false
set_option maxRecDepth 100000
namespace Go.Proofs.YtjooihelppcfkaaDoor
open Go.ChangeShapes Go.WideShapes Go.ChangeAt Go.WideMaps Go.WideElems Go.RowKit Go.Abs Go.Proofs.Ts
theorem lifted7 (plain:∀ (x0:HarnessBook) (x1:List Int) (x2:Nat→Int),(WBook x0)→(x1.length≤maxLen∧∀ n,n∈x1→Wi n)→(∀ i,Wi (x2 i))→g7 x0 x1 x2=some true) (os:Os) (started:os.Started) (H:Type) (enc:TypeId×Value→H) :
  ReturnsInHanded {} Tryd.checked os 7 .any (fun w args=>(Rows.harnessOrderSpec.pre enc Tryd.prog Tryd.f7 [] false w args∧laidMetH Tryd.prog laid1 w)∧sizedMet enc Tryd.prog Tryd.f7 (OpenSpec.ofChange Rows.harnessOrderSpec) false w args)
   (Rows.harnessOrderSpec.post enc Tryd.prog Tryd.f7 false true false false):=by
 refine returnsInHanded_of_change_and (C:=Tryd.checked) (X:=fun w _=>laidMetH Tryd.prog laid1 w) (fun _ _ _ hh h=>h.of_heap hh) own started (by kernel_rfl) Tryd.func7
  (ChangeSpec.witness_shaped (enc:=enc) (C:=Tryd.checked) (os:=os) (X:=fun w _=>laidMetH Tryd.prog laid1 w) false (World.doorLaid Tryd.prog 600 os) #[.agg #[.slice none 0 0,.slice none 0 0,.int .i64 0,.int .i64 0,.int .i64 0,.slice none 0 0,.slice none 0 0,.int .i64 0,.int .i64 0],.slice none 0 0,.agg #[.int .i64 0,.int .i64 0]] 8 rfl (World.shaped_of_RefB (by kernel_rfl) (by kernel_rfl)) (by kernel_rfl) (by kernel_rfl) (by kernel_rfl) (door_met os _)) ?_
 intro W base args ds gs before hval0 hW _ _ hL _
 have hval:∀ (j:Nat) t v,Tryd.f7.params[j]?=some t→args[j]?=some v→Value.okWide Tryd.prog W .any base t v:=hval0
 have hW':=hW
 obtain ⟨p,q,hA0,hV,rfl,hfz,hnd⟩:=hW
 have hA:DataW.TrodAll enc Tryd.prog W 0 (fun _=>true) true Tryd.f7.params.toList args.toList ds p:=hA0
 rw [Tryd.params7] at hA hval
 obtain ⟨v0,v1,v2,d0,d1,d2,p0,p1,p2,rfl,rfl,rfl,h0,h1,h2⟩:=trodAll_three hA
 obtain ⟨x0,w0,r0⟩:=arg29 (hval 0 29 v0 rfl rfl) h0
 obtain ⟨x1,w1,r1⟩:=arg30 (hval 1 30 v1 rfl rfl) h1
 obtain ⟨x2,w2,r2⟩:=arg57 (hval 2 57 v2 rfl rfl) h2
 have hc:=scall_calls (k7 x0 x1 x2 true (plain x0 x1 x2 w0 w1 w2)) (of_laid hL) (W:=W) (args:=#[v0,v1,v2]) rfl (fun i x v hx hv=>by
  match i with
  | 0=>cases hx;cases hv;exact r0
  | 1=>cases hx;cases hv;exact r1
  | 2=>cases hx;cases hv;exact r2
  | i+3=>simp at hx)
 refine hc.mono fun e W' ⟨he,hb⟩=>?_
 subst he
 exact ⟨_,rfl,card_post (tb:=4) laidOut hb (by kernel_rfl) rfl (fun l hl=>by
  match l,hl with
  | [e0,e1,e2],_=>rfl) (by kernel_rfl) Tryd.underlying4 hW'⟩
theorem row_holds7 (plain:∀ (x0:HarnessBook) (x1:List Int) (x2:Nat→Int),(WBook x0)→(x1.length≤maxLen∧∀ n,n∈x1→Wi n)→(∀ i,Wi (x2 i))→g7 x0 x1 x2=some true):Rows.HarnessOrderSaid:=
 OpenClaim.holds_of_wide 7 Tryd.f7 rfl rfl rfl rfl rfl rfl rfl ⟨rfl,rfl,rfl,rfl,rfl⟩ rfl rfl rfl rfl rfl (by kernel_rfl) Tryd.func7 (by kernel_rfl)
  (of_decide_eq_true (by kernel_rfl)) (by unfold Func.isWrapper;first | (rw [if_pos (by decide +kernel)];kernel_rfl) | (rw [if_neg (by decide +kernel)];exact ⟨rfl,rfl⟩))
  (fun os started H enc _=>lifted7 plain os started H enc)
theorem card_holds7 (plain:∀ (x0:HarnessBook) (x1:List Int) (x2:Nat→Int),(WBook x0)→(x1.length≤maxLen∧∀ n,n∈x1→Wi n)→(∀ i,Wi (x2 i))→g7 x0 x1 x2=some true):Rows.HarnessOrderCardSaid:=
 Claim7.holds_tied_plain_at .later [] [.funcs, .data, .funcs] true (true, "37ed63dde1cec494fe0447245e6e639e9c195fb0d1a4975922d33755cf32f48a") false
  (row_holds7 plain) (fun _ h=>by cases h) (by kernel_rfl) (fun _ h=>by cases h) harnessOrder_row_tie rfl ⟨rfl,rfl⟩ (by kernel_rfl) rfl
  (fun f fn hf hfn=>by
   obtain rfl : f = 7 := Option.some.inj ((show Tryd.prog.funcNamed "skewbald/skewbaldlaw10.HarnessOrder" = some 7 by kernel_rfl).symm.trans hf) |>.symm
   obtain rfl:fn=Tryd.f7:=(Option.some.inj (Tryd.func7.symm.trans hfn)).symm
   exact ⟨by kernel_rfl,fun j t ht=>by
    rw [Tryd.params7] at ht
    match j with
    | 0=>cases ht;exact (show Tryd.prog.wantsStandIn 29=false by kernel_rfl)
    | 1=>cases ht;exact (show Tryd.prog.wantsStandIn 30=false by kernel_rfl)
    | 2=>cases ht;exact (show Tryd.prog.wantsStandIn 57=false by kernel_rfl)
    | j+3=>simp at ht⟩)
  (by kernel_rfl)
theorem harnessOrder_holds:Rows.HarnessOrderCardSaid:=card_holds7 (fun x0 x1 x2 u0 u1 u2=>plain7 x0 x1 x2 (by have:=u1.1;simp only [maxLen] at this;omega) u2)
end Go.Proofs.YtjooihelppcfkaaDoor
