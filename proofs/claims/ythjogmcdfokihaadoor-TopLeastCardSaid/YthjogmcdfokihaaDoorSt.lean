/- TopLeast: the row and the card. Conditions: none. -/
import Derived.Test.YthjogmcdfokihaaDoorPl
set_option linter.unusedVariables false
set_option linter.unusedSimpArgs false
set_option maxRecDepth 100000
namespace Go.Proofs.YthjogmcdfokihaaDoor
open Go.ChangeShapes Go.WideShapes Go.ChangeAt Go.WideMaps Go.WideElems Go.RowKit Go.Abs Go.Proofs.Tp
theorem lifted3 (plain:∀ (x0:PlankBook) (x1:Int),(WBook x0)→(Wi x1)→g3 x0 x1=some true) (os:Os) (started:os.Started) (H:Type) (enc:TypeId×Value→H) :
  ReturnsInHanded {} Tryd.checked os 3 .any (fun w args=>(Rows.topLeastSpec.pre enc Tryd.prog Tryd.f3 [] false w args∧laidMetH Tryd.prog laid1 w)∧sizedMet enc Tryd.prog Tryd.f3 (OpenSpec.ofChange Rows.topLeastSpec) false w args)
   (Rows.topLeastSpec.post enc Tryd.prog Tryd.f3 false true false false):=by
 refine returnsInHanded_of_change_and (C:=Tryd.checked) (X:=fun w _=>laidMetH Tryd.prog laid1 w) (fun _ _ _ hh h=>h.of_heap hh) own started (by kernel_rfl) Tryd.func3
  (ChangeSpec.witness_shaped (enc:=enc) (C:=Tryd.checked) (os:=os) (X:=fun w _=>laidMetH Tryd.prog laid1 w) false (World.doorLaid Tryd.prog 600 os) #[.agg #[.slice none 0 0,.slice none 0 0],.int .i64 0] 8 rfl (World.shaped_of_RefB (by kernel_rfl) (by kernel_rfl)) (by kernel_rfl) (by kernel_rfl) (by kernel_rfl) (door_met os _)) ?_
 intro W base args ds gs before hval0 hW _ _ hL _
 have hval:∀ (j:Nat) t v,Tryd.f3.params[j]?=some t→args[j]?=some v→Value.okWide Tryd.prog W .any base t v:=hval0
 have hW':=hW
 obtain ⟨p,q,hA0,hV,rfl,hfz,hnd⟩:=hW
 have hA:DataW.TrodAll enc Tryd.prog W 0 (fun _=>true) true Tryd.f3.params.toList args.toList ds p:=hA0
 rw [Tryd.params3] at hA hval
 obtain ⟨v0,v1,d0,d1,p0,p1,rfl,rfl,rfl,h0,h1⟩:=trodAll_two hA
 obtain ⟨x0,w0,r0⟩:=arg25 (hval 0 25 v0 rfl rfl) h0
 obtain ⟨x1,w1,r1⟩:=arg3 (hval 1 3 v1 rfl rfl) h1
 have hc:=scall_calls (k3 x0 x1 true (plain x0 x1 w0 w1)) (of_laid hL) (W:=W) (args:=#[v0,v1]) rfl (fun i x v hx hv=>by
  match i with
  | 0=>cases hx;cases hv;exact r0
  | 1=>cases hx;cases hv;exact r1
  | i+2=>simp at hx)
 refine hc.mono fun e W' ⟨he,hb⟩=>?_
 subst he
 exact ⟨_,rfl,card_post (tb:=4) laidOut hb (by kernel_rfl) rfl (fun l hl=>by
  match l,hl with
  | [e0,e1],_=>rfl) (by kernel_rfl) Tryd.underlying4 hW'⟩
theorem row_holds3 (plain:∀ (x0:PlankBook) (x1:Int),(WBook x0)→(Wi x1)→g3 x0 x1=some true):Rows.TopLeastSaid:=
 OpenClaim.holds_of_wide 3 Tryd.f3 rfl rfl rfl rfl rfl rfl rfl ⟨rfl,rfl,rfl,rfl,rfl⟩ rfl rfl rfl rfl rfl (by kernel_rfl) Tryd.func3 (by kernel_rfl)
  (of_decide_eq_true (by kernel_rfl)) (by unfold Func.isWrapper;first | (rw [if_pos (by decide +kernel)];kernel_rfl) | (rw [if_neg (by decide +kernel)];exact ⟨rfl,rfl⟩))
  (fun os started H enc _=>lifted3 plain os started H enc)
theorem card_holds3 (plain:∀ (x0:PlankBook) (x1:Int),(WBook x0)→(Wi x1)→g3 x0 x1=some true):Rows.TopLeastCardSaid:=
 Claim7.holds_tied_plain_at .later [] [.funcs, .funcs, .data] true (true, "4b41b16630ecce2bad833871e7e4df9f4266d433e691c4fb389d35f54e5c7d6c") false
  (row_holds3 plain) (fun _ h=>by cases h) (by kernel_rfl) (fun _ h=>by cases h) topLeast_row_tie rfl ⟨rfl,rfl⟩ (by kernel_rfl) rfl
  (fun f fn hf hfn=>by
   obtain rfl : f = 3 := Option.some.inj ((show Tryd.prog.funcNamed "skewbald/skewbaldtop.TopLeast" = some 3 by kernel_rfl).symm.trans hf) |>.symm
   obtain rfl:fn=Tryd.f3:=(Option.some.inj (Tryd.func3.symm.trans hfn)).symm
   exact ⟨by kernel_rfl,fun j t ht=>by
    rw [Tryd.params3] at ht
    match j with
    | 0=>cases ht;exact (show Tryd.prog.wantsStandIn 25=false by kernel_rfl)
    | 1=>cases ht;exact (show Tryd.prog.wantsStandIn 3=false by kernel_rfl)
    | j+2=>simp at ht⟩)
  (by kernel_rfl)
theorem topLeast_holds:Rows.TopLeastCardSaid:=card_holds3 (fun x0 x1 u0 u1=>plain3 x0 x1)
end Go.Proofs.YthjogmcdfokihaaDoor
