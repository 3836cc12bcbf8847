/- HarnessKnown: the row and the card. Conditions: none. -/
import Derived.Test.YtgdkhppmlfmacaaDoorPl
set_option linter.unusedVariables false
set_option linter.unusedSimpArgs false
set_option maxRecDepth 100000
namespace Go.Proofs.YtgdkhppmlfmacaaDoor
open Go.ChangeShapes Go.WideShapes Go.ChangeAt Go.WideMaps Go.WideElems Go.RowKit Go.Abs Go.Proofs.Tm
theorem lifted5 (os:Os) (started:os.Started) (H:Type) (enc:TypeId×Value→H) :
  ReturnsInHanded {} Tryd.checked os 5 .any (fun w args=>(Rows.harnessKnownSpec.pre enc Tryd.prog Tryd.f5 [] false w args∧laidMetH Tryd.prog laid1 w)∧sizedMet enc Tryd.prog Tryd.f5 (OpenSpec.ofChange Rows.harnessKnownSpec) false w args)
   (Rows.harnessKnownSpec.post enc Tryd.prog Tryd.f5 false true false false):=by
 refine returnsInHanded_of_change_and (C:=Tryd.checked) (X:=fun w _=>laidMetH Tryd.prog laid1 w) (fun _ _ _ hh h=>h.of_heap hh) own started (by kernel_rfl) Tryd.func5
  (ChangeSpec.witness_shaped (enc:=enc) (C:=Tryd.checked) (os:=os) (X:=fun w _=>laidMetH Tryd.prog laid1 w) false (World.doorLaid Tryd.prog 600 os) #[] 8 rfl (World.shaped_of_RefB (by kernel_rfl) (by kernel_rfl)) (by kernel_rfl) (by kernel_rfl) (by kernel_rfl) (door_met os _)) ?_
 intro W base args ds gs before hval0 hW _ _ hL _
 have hW':=hW
 obtain ⟨p,q,hA0,hV,rfl,hfz,hnd⟩:=hW
 have hA:DataW.TrodAll enc Tryd.prog W 0 (fun _=>true) true Tryd.f5.params.toList args.toList ds p:=hA0
 rw [Tryd.params5] at hA
 obtain ⟨l⟩:=args
 have hA':DataW.TrodAll enc Tryd.prog W 0 (fun _=>true) true [] l ds p:=hA
 obtain ⟨rfl,rfl,rfl⟩:=trodAll_nil hA'
 have hc:=scall_calls (k5 true plain5) (of_laid hL) (W:=W) (args:=#[]) rfl (fun i x v hx hv=>by simp at hx)
 refine hc.mono fun e W' ⟨he,hb⟩=>?_
 subst he
 exact ⟨_,rfl,card_post (tb:=4) laidOut hb (by kernel_rfl) rfl (fun l hl=>by
  match l,hl with
  | [],_=>rfl) (by kernel_rfl) Tryd.underlying4 hW'⟩
theorem row_holds5:Rows.HarnessKnownSaid:=
 OpenClaim.holds_of_wide 5 Tryd.f5 rfl rfl rfl rfl rfl rfl rfl ⟨rfl,rfl,rfl,rfl,rfl⟩ rfl rfl rfl rfl rfl (by kernel_rfl) Tryd.func5 (by kernel_rfl)
  (of_decide_eq_true (by kernel_rfl)) (by unfold Func.isWrapper;first | (rw [if_pos (by decide +kernel)];kernel_rfl) | (rw [if_neg (by decide +kernel)];exact ⟨rfl,rfl⟩))
  (fun os started H enc _=>lifted5 os started H enc)
theorem harnessKnown_holds:Rows.HarnessKnownCardSaid:=
 Claim7.holds_tied_plain_at .later [] [.funcs, .data, .funcs] true (true, "f5f3a951cf4e80481c5e40757205c06b32d25014bb58e749d3495f12b42635a1") false
  row_holds5 (fun _ h=>by cases h) (by kernel_rfl) (fun _ h=>by cases h) harnessKnown_row_tie rfl ⟨rfl,rfl⟩ (by kernel_rfl) rfl
  (fun f fn hf hfn=>by
   obtain rfl : f = 5 := Option.some.inj ((show Tryd.prog.funcNamed "skewbald/skewbaldlaw10.HarnessKnown" = some 5 by kernel_rfl).symm.trans hf) |>.symm
   obtain rfl:fn=Tryd.f5:=(Option.some.inj (Tryd.func5.symm.trans hfn)).symm
   exact ⟨by kernel_rfl,fun j t ht=>by
    rw [Tryd.params5] at ht
    simp at ht⟩)
  (by kernel_rfl)
end Go.Proofs.YtgdkhppmlfmacaaDoor
