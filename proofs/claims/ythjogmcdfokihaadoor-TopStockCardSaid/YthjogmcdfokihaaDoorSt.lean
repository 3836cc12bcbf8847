/- TopStock: the row and the card. Conditions: none. -/
import Derived.Test.YthjogmcdfokihaaDoorPl
set_option linter.unusedVariables false
set_option linter.unusedSimpArgs false
set_option maxRecDepth 100000
namespace Go.Proofs.YthjogmcdfokihaaDoor
open Go.ChangeShapes Go.WideShapes Go.ChangeAt Go.WideMaps Go.WideElems Go.RowKit Go.Abs Go.Proofs.Tp
theorem lifted4 (plain:∀ (x0:PlankBook),(WBook x0)→g4 x0=some true) (os:Os) (started:os.Started) (H:Type) (enc:TypeId×Value→H) :
  ReturnsInHanded {} Tryd.checked os 4 .any (fun w args=>(Rows.topStockSpec.pre enc Tryd.prog Tryd.f4 [] false w args∧laidMetH Tryd.prog laid1 w)∧sizedMet enc Tryd.prog Tryd.f4 (OpenSpec.ofChange Rows.topStockSpec) false w args)
   (Rows.topStockSpec.post enc Tryd.prog Tryd.f4 false true false false):=by
 refine returnsInHanded_of_change_and (C:=Tryd.checked) (X:=fun w _=>laidMetH Tryd.prog laid1 w) (fun _ _ _ hh h=>h.of_heap hh) own started (by kernel_rfl) Tryd.func4
  (ChangeSpec.witness_shaped (enc:=enc) (C:=Tryd.checked) (os:=os) (X:=fun w _=>laidMetH Tryd.prog laid1 w) false (World.doorLaid Tryd.prog 600 os) #[.agg #[.slice none 0 0,.slice none 0 0]] 8 rfl (World.shaped_of_RefB (by kernel_rfl) (by kernel_rfl)) (by kernel_rfl) (by kernel_rfl) (by kernel_rfl) (door_met os _)) ?_
 intro W base args ds gs before hval0 hW _ _ hL _
 have hval:∀ (j:Nat) t v,Tryd.f4.params[j]?=some t→args[j]?=some v→Value.okWide Tryd.prog W .any base t v:=hval0
 have hW':=hW
 obtain ⟨p,q,hA0,hV,rfl,hfz,hnd⟩:=hW
 have hA:DataW.TrodAll enc Tryd.prog W 0 (fun _=>true) true Tryd.f4.params.toList args.toList ds p:=hA0
 rw [Tryd.params4] at hA hval
 obtain ⟨v0,d0,rfl,rfl,h0⟩:=trodAll_one hA
 obtain ⟨x0,w0,r0⟩:=arg25 (hval 0 25 v0 rfl rfl) h0
 have hc:=scall_calls (k4 x0 true (plain x0 w0)) (of_laid hL) (W:=W) (args:=#[v0]) rfl (fun i x v hx hv=>by
  match i with
  | 0=>cases hx;cases hv;exact r0
  | i+1=>simp at hx)
 refine hc.mono fun e W' ⟨he,hb⟩=>?_
 subst he
 exact ⟨_,rfl,card_post (tb:=4) laidOut hb (by kernel_rfl) rfl (fun l hl=>by
  match l,hl with
  | [e0],_=>rfl) (by kernel_rfl) Tryd.underlying4 hW'⟩
theorem row_holds4 (plain:∀ (x0:PlankBook),(WBook x0)→g4 x0=some true):Rows.TopStockSaid:=
 OpenClaim.holds_of_wide 4 Tryd.f4 rfl rfl rfl rfl rfl rfl rfl ⟨rfl,rfl,rfl,rfl,rfl⟩ rfl rfl rfl rfl rfl (by kernel_rfl) Tryd.func4 (by kernel_rfl)
  (of_decide_eq_true (by kernel_rfl)) (by unfold Func.isWrapper;first | (rw [if_pos (by decide +kernel)];kernel_rfl) | (rw [if_neg (by decide +kernel)];exact ⟨rfl,rfl⟩))
  (fun os started H enc _=>lifted4 plain os started H enc)
theorem card_holds4 (plain:∀ (x0:PlankBook),(WBook x0)→g4 x0=some true):Rows.TopStockCardSaid:=
 Claim7.holds_tied_plain_at .later [] [.funcs, .funcs, .data] true (true, "4b41b16630ecce2bad833871e7e4df9f4266d433e691c4fb389d35f54e5c7d6c") false
  (row_holds4 plain) (fun _ h=>by cases h) (by kernel_rfl) (fun _ h=>by cases h) topStock_row_tie rfl ⟨rfl,rfl⟩ (by kernel_rfl) rfl
  (fun f fn hf hfn=>by
   obtain rfl : f = 4 := Option.some.inj ((show Tryd.prog.funcNamed "skewbald/skewbaldtop.TopStock" = some 4 by kernel_rfl).symm.trans hf) |>.symm
   obtain rfl:fn=Tryd.f4:=(Option.some.inj (Tryd.func4.symm.trans hfn)).symm
   exact ⟨by kernel_rfl,fun j t ht=>by
    rw [Tryd.params4] at ht
    match j with
    | 0=>cases ht;exact (show Tryd.prog.wantsStandIn 25=false by kernel_rfl)
    | j+1=>simp at ht⟩)
  (by kernel_rfl)
theorem topStock_holds:Rows.TopStockCardSaid:=card_holds4 (fun x0 u0=>plain4 x0)
end Go.Proofs.YthjogmcdfokihaaDoor
