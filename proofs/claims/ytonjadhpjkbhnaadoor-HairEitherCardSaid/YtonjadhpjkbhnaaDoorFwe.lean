/- The framework: what a piece of code does to told states, part 5. Conditions: none. -/
import Derived.Test.YtonjadhpjkbhnaaDoorFwd
import Derived.CallsIn
import Derived.OrdersIn
import Derived.Below
import Derived.Laws.World
import Derived.Laws.Cells
import Derived.Laws.Entries
import Derived.Laws.CopyRow
import Derived.IntWalk
import Derived.RangeFuncRecord
import Derived.RangeFuncLeaves
import Derived.KernelRfl
import Derived.Maps.AppendAt
import Derived.Laws.MakeOwn
import Derived.Laws.StructEq
import Derived.ChangeKeysEq
import Derived.MapKept
import Derived.ProofKit
import Derived.OpenShut
import Derived.LaidMore
set_option linter.unusedVariables false
set_option linter.unusedSimpArgs false
namespace Go.Abs
def V.noY : V → Bool
 | .yld => false
 | .clo _ first caps => noYs first && noYs caps
 | .agg cs => noYs cs
 | .tup cs => noYs cs
 | _ => true
where noYs : List V → Bool
 | [] => true
 | v :: vs => V.noY v && noYs vs
theorem noYs_get : ∀ (cs : List V) (i : Nat) x, V.noY.noYs cs = true → cs[i]? = some x → x.noY = true := by
 intro cs
 induction cs with
 | nil => intro i x _ hx; simp at hx
 | cons y ys ih =>
  intro i x hb hx
  simp only [V.noY.noYs, Bool.and_eq_true] at hb
  cases i with
  | zero => simp at hx; subst hx; exact hb.1
  | succ i => exact ih i x hb.2 (by simpa using hx)
def Blk.noY : Blk → Bool
 | .var _ cs => V.noY.noYs cs
 | _ => true
theorem VRel.atY {c c' : Cx} {H : Hp} {U : Nat → Prop} {w : World} {x : V} {v : Value} (h : VRel c H U w x v) (hn : x.noY = true) (hf : ∀ r, c'.fm r = c.fm r) (hA : ∀ g, c.A g → c'.A g) : VRel c' H U w x v := by
 induction h with
 | undef => exact .undef
 | d x v h => exact .d x v (h.mono hA (fun _ _ => rfl))
 | fp row off b o hb h => exact .fp row off b o (hA _ hb) (fun j x hj => let ⟨cv, h1, h2⟩ := h j x hj; ⟨cv, h1, h2.mono hA (fun _ _ => rfl)⟩)
 | ptr r off T g m cs hr h => exact .ptr r off T g m cs hr ((hf r).trans h)
 | eptr r n i off ad hr hb h => exact .eptr r n i off ad hr hb (fun T es xs h1 h2 => let ⟨g, m, h3, h4⟩ := h T es xs h1 h2; ⟨g, m, (hf r).trans h3, h4⟩)
 | own r n a m hr hb hb2 h => exact .own r n a m hr hb hb2 (fun T es xs h1 h2 => (h T es xs h1 h2).imp (fun ⟨g, h3, h4⟩ => ⟨g, (hf r).trans h3, h4⟩) (fun ⟨h3, h4⟩ => ⟨(hf r).trans h3, h4⟩))
 | map r g m es hr h => exact .map r g m es hr ((hf r).trans h)
 | clo f first caps fs cs h1 h2 h3 h4 ih1 ih2 =>
  simp only [V.noY, Bool.and_eq_true] at hn
  exact .clo f first caps fs cs h1 h2 (fun i x v hx hv => ih1 i x v hx hv (noYs_get _ i x hn.1 hx)) (fun i x v hx hv => ih2 i x v hx hv (noYs_get _ i x hn.2 hx))
 | yld => simp [V.noY] at hn
 | opq v h => exact .opq v h
 | fsl es xs a h => exact .fsl es xs a (h.mono hA (fun _ _ => rfl))
 | fmp es g en clock hA0 hg hsz hen => exact .fmp es g en clock (hA g hA0) hg hsz (fun i k v e h1 h2 => ⟨(hen i k v e h1 h2).1.mono hA (fun _ _ => rfl), (hen i k v e h1 h2).2.mono hA (fun _ _ => rfl)⟩)
 | agg cs vs hl h h1 ih => simp only [V.noY] at hn; exact .agg cs vs hl (fun i x v hx hv => ih i x v hx hv (noYs_get _ i x hn hx)) h1
 | tup cs vs hl h ih => simp only [V.noY] at hn; exact .tup cs vs hl (fun i x v hx hv => ih i x v hx hv (noYs_get _ i x hn hx))
def pendQ (Q : Post) : Option Code → St → Prop
 | none, σ => Q .normal σ
 | some .ret, σ => Q .ret σ
 | some (.exit i), σ => Q (.exit i) σ
 | _, _ => False
section
variable {P : Program} {G : Gl} {nt : Nat} {F : Fence}
theorem HRel.blt {c : Cx} {H : Hp} {U : Nat → Prop} {fr : Fr} {w : World} (h : HRel G c H U fr w) {r : Nat} {b : Blk} {g m : Nat} (hr : H r = some b) (hf : c.fm r = some (g, m)) : g < w.heap.size := by
 obtain ⟨g1, m1, hf1, hb1⟩ := (h.pl r b hr).resolve_right (fun hn => (by rw [hf] at hn; cases hn.1))
 rw [hf] at hf1; cases hf1
 cases b with
 | var T cs => obtain ⟨cur, hc, _⟩ := hb1; exact (Array.getElem?_eq_some_iff.1 hc).1
 | row T es xs => obtain ⟨cur, hc, _⟩ := hb1; exact (Array.getElem?_eq_some_iff.1 hc).1
 | mp es => obtain ⟨en, cl, hc, _⟩ := hb1; exact (Array.getElem?_eq_some_iff.1 hc).1
 | dm => exact (Array.getElem?_eq_some_iff.1 (show w.heap[g]? = _ from hb1)).1
 | dead => exact hb1.elim
structure LendR (ρ : Nat → Nat) (H0 : List (Nat × Blk)) (n0 : Nat) (hp h0 : List (Nat × Blk)) : Prop where
 lend : ∀ q b, look H0 q = some b → q < n0 ∧ b.lend = true ∧ b.okR n0 (fun q => (look H0 q).isSome) = true ∧ (b.ren ρ).noY = true ∧ look hp (ρ q) = some (b.ren ρ) ∧ look h0 (ρ q) = none
 inj : ∀ q q', (look H0 q).isSome = true → (look H0 q').isSome = true → ρ q = ρ q' → q = q'
set_option maxHeartbeats 800000 in
theorem AW.rfun {σ : St} {f : Opd} {ps : List Nat} {ia ib : ICode} {Q : Post} {u : V} {g : Nat} {first caps : List V} (hf : ev G (look σ.env) f = some u) (hc : Callee u g first caps) (hbd : hasBody P g = true)
  {vs0 : List V} {H0 H1 : List (Nat × Blk)} {n0 : Nat} {r0 : V} {ρ : Nat → Nat} {env' : List (Nat × V)} {h0 hN : List (Nat × Blk)} {pend : Option Code}
  (hsub : St.Sub { env := env', heap := h0, nx := σ.nx, fr := σ.fr, dfs := σ.dfs, base := σ.base } σ) (hl : LendR ρ H0 n0 σ.heap h0)
  (hvs : first ++ [.yld] ++ caps = V.ren.rens ρ vs0) (hny : V.noY.noYs first = true ∧ V.noY.noYs caps = true) (hok : V.okR.okRs n0 (fun q => (look H0 q).isSome) vs0 = true)
  (hspec : ∀ W : List (Nat × Blk) → Option Code → Fr, (∀ h vs h' p, ps.length = vs.length → V.isD.isDs vs = true →
    (∀ l, AW P G nt (Fence.wide.inRound l) ia (thenQ (AW P G nt (Fence.wide.inRound l) ib (RdQ (σ.nx + 1) σ.fr h h' p)) (fun _ _ => False)) ⟨zipE ps vs env', h, σ.nx + 1, σ.fr, [], σ.nx + 1⟩) → YCall P G (W h none) vs (.d (.bool p.isNone)) (W h' p)) →
   SCall P G g vs0 H0 n0 (W ((σ.nx, .dm) :: h0) none) r0 H1 n0 (W hN pend))
  (hk : pendQ Q pend { env := env', heap := hN, nx := σ.nx + 1, fr := σ.fr, dfs := σ.nx :: σ.dfs, base := σ.base }) : AW P G nt Fence.wide (.rfun f ps ia ib) Q σ := by
 intro code ht c a w hR
 cases ht with
 | @rfun fo _ psa asg bod _ _ hfo hps hta htb =>
  obtain ⟨hRs, hWs⟩ := hR.sub hsub
  have hfv := ev_ok hR.R hfo hf
  -- the mark's block
  obtain ⟨hst1, hR1, hx1⟩ := hRs.R.new (a := a) σ.nx 0 .dm (.deferred (some [])) (fun h => Nat.lt_irrefl _ h) (fun hs hA => heap_alloc_at _ _)
  generalize hw1 : w.alloc (.deferred (some [])) = w1 at hR1 hx1
  have hsz1 : w1.heap.size = w.heap.size + 1 := by rw [← hw1]; simp
  let cd : Cx := c.put σ.nx w.heap.size 0
  let L : Loop := { state := .ready, pending := none, fn := 0, tmps := a.tmps, params := psa, assign := asg, body := bod, defers := w.heap.size }
  refine wpIn_rangeFunc fun fn _ => ?_
  let L : Loop := { state := .ready, pending := none, fn := fn, tmps := a.tmps, params := psa, assign := asg, body := bod, defers := w.heap.size }
  generalize hw2 : w1.alloc (.loop L) = w2
  have hold2 : ∀ k, k < w1.heap.size → w2.heap[k]? = w1.heap[k]? := fun k hk => by rw [← hw2]; exact heap_alloc_old w1 _ k hk
  have hrec2 : w2.heap[w.heap.size + 1]? = some (.loop L) := by rw [← hw2, ← hsz1]; exact heap_alloc_at w1 _
  have hsz2 : w2.heap.size = w.heap.size + 2 := by rw [← hw2]; simp [hsz1]
  have hus : usOf [σ.nx] (fun r => r < σ.nx) = fun r => r < σ.nx + 1 := by
   funext r; simp only [usOf, List.mem_singleton, eq_iff_iff]; omega
  rw [hus] at hR1 hst1
  have hhd : upd (look h0) σ.nx .dm = look ((σ.nx, Blk.dm) :: h0) := (look_upd _ _ _).symm
  simp only at hst1 hR1 hx1
  rw [hhd] at hR1 hst1 hx1
  have hh2 : HRel G cd (look ((σ.nx, Blk.dm) :: h0)) (fun r => r < σ.nx + 1) σ.fr w2 := hR1.h.same (fun r b g m h1 h2 => hold2 g (hR1.h.blt h1 h2)) (fun g hg => hold2 g (hR1.h.Alt g hg)) (fun g hg => hold2 g (hR1.h.Olt g hg))
  have hwA : ∀ g, c.A g → w2.heap[g]? = w.heap[g]? := fun g hg => by
   have h1 := hRs.R.h.Alt g hg
   rw [hold2 g (by omega), ← hw1]; exact heap_alloc_old w _ g h1
  have hwo : ∀ g, g < w.heap.size → w2.heap[g]? = w.heap[g]? := fun g hg => by
   rw [hold2 g (by omega), ← hw1]; exact heap_alloc_old w _ g hg
  let t : Wt := { nt := nt, env := env', tm := a.tmps, ps := psa.toList, ia := ia, ib := ib, nx := σ.nx + 1, fr := σ.fr, c0 := cd, H0 := look ((σ.nx, Blk.dm) :: h0), w0 := w2 }
  have htok : t.Ok := ⟨hR.R.nt, hps, fun k v hk' => by
   obtain ⟨cv, h1, h2⟩ := hRs.R.env k v hk'
   exact ⟨cv, h1, h2.mono hwA hst1⟩, fun r b hr => hh2.lt r b hr⟩
  have hS := hspec (wfr P G t) (fun h vs h' p h1 h2 h3 => wt_round htok h1 h2 h3)
  let cg : Cx := { fm := fun q => c.fm (ρ q), A := c.A, O := fun g => g = w.heap.size + 1 ∨ c.O g ∨ ∃ r b m, look ((σ.nx, Blk.dm) :: h0) r = some b ∧ cd.fm r = some (g, m), y := w.heap.size + 1 }
  -- where blocks of those who wait lie
  have hpl2 : ∀ r b g m, look ((σ.nx, Blk.dm) :: h0) r = some b → cd.fm r = some (g, m) → g < w.heap.size + 1 ∧ (g < w.heap.size → ∃ b', look σ.heap r = some b' ∧ look h0 r = some b' ∧ c.fm r = some (g, m)) := fun r b g m h1 h2 => by
   have hlt := hR1.h.blt h1 h2
   refine ⟨by omega, fun hg => ?_⟩
   rw [look_cons] at h1
   by_cases e : σ.nx = r
   ·subst e
    have : (g, m) = (w.heap.size, 0) := by simpa [cd, Cx.put, upd] using h2.symm
    cases this; omega
   ·rw [if_neg e] at h1
    exact ⟨b, (hsub.heap r b h1).1, h1, (upd_other _ _ _ _ e).symm.trans h2⟩
  have hyO : ∀ g, cg.O g → w.heap.size ≤ g ∨ c.O g ∨ ∃ r0 b0 m0, look σ.heap r0 = some b0 ∧ c.fm r0 = some (g, m0) := fun g hg => by
   rcases hg with rfl | hg | ⟨r, b, m, h1, h2⟩
   ·exact .inl (by omega)
   ·exact .inr (.inl hg)
   ·rcases Nat.lt_or_ge g w.heap.size with h | h
    ·obtain ⟨b', h3, _, h4⟩ := (hpl2 r b g m h1 h2).2 h
     exact .inr (.inr ⟨r, b', m, h3, h4⟩)
    ·exact .inl h
  have hAO : ∀ g, c.A g → ¬ cg.O g := fun g ha ho => by
   rcases hyO g ho with h | h | ⟨r0, b0, m0, h1, h2⟩
   ·have := hR.R.h.Alt g ha; omega
   ·exact hR.R.h.AO g ha h
   ·exact hR.R.h.nA _ _ _ _ h1 h2 ha
  have hhg : HRel G cg (look H0) (fun r => r < n0) (wfr P G t ((σ.nx, Blk.dm) :: h0) none) w2 := by
   refine ⟨fun q b hq => (hl.lend q b hq).1, fun q b hq => ?_, fun q q' b b' g m m' h1 h2 f1 f2 => ?_, fun q b g m h1 f1 => ?_, fun q b g m h1 f1 ho => ?_, hAO, fun g hg => by have := hR.R.h.Alt g hg; omega, fun g hg => ?_, ?_, fun g row hg => ?_⟩
   ·obtain ⟨l1, l2, l3, l4, l5, l6⟩ := hl.lend q b hq
    obtain ⟨g, m, hf, hB⟩ := (hR.R.h.pl _ _ l5).resolve_right (fun hn => by
     obtain ⟨_, hu⟩ := hn
     cases b <;> first | (simp [Blk.lend] at l2; done) | (simp only [Blk.ren] at hu; cases hu))
    have hglt := hR.R.h.blt l5 hf
    refine .inl ⟨g, m, hf, ?_⟩
    cases b with
    | var T cs =>
     obtain ⟨cur, p1, p2, p3⟩ := hB
     refine ⟨cur, (hwo g hglt).trans p1, by rw [p2, rens_map, List.length_map], fun j x cv hx hcv => ?_⟩
     have hjx : (V.ren.rens ρ cs)[j]? = some (x.ren ρ) := by rw [rens_map, List.getElem?_map, hx]; rfl
     obtain ⟨q1, q2⟩ := p3 j (x.ren ρ) cv hjx hcv
     have q3 := (q1.atY (c' := { c with y := w.heap.size + 1 }) (noYs_get _ j _ l4 hjx) (fun _ => rfl) (fun _ h => h)).mono hwA (HStep.refl _ _ _)
     exact ⟨ren_in (c := { c with y := w.heap.size + 1 }) (c0 := cg) (ρ := ρ) (H := look σ.heap) (U := fun r => r < σ.nx) (fun _ => rfl) (fun _ h => h) rfl (fun q b hq => (hl.lend q b hq).2.2.2.2.1) (okRs_get _ j x l3 hx) q3, q2⟩
    | mp es =>
     obtain ⟨en, clock, p1, p2, p3⟩ := hB
     exact ⟨en, clock, (hwo g hglt).trans p1, p2, fun i k v e hk' he => let ⟨a, b⟩ := p3 i k v e hk' he; ⟨a.mono (fun _ h => h) hwA, b.mono (fun _ h => h) hwA⟩⟩
    | _ => simp [Blk.lend] at l2
   ·exact hl.inj q q' (by rw [h1]; rfl) (by rw [h2]; rfl) (hR.R.h.inj _ _ _ _ _ _ _ (hl.lend q b h1).2.2.2.2.1 (hl.lend q' b' h2).2.2.2.2.1 f1 f2)
   ·exact hR.R.h.nA _ _ _ _ (hl.lend q b h1).2.2.2.2.1 f1
   ·have l5 := (hl.lend q b h1).2.2.2.2.1
    have hglt := hR.R.h.blt l5 f1
    rcases ho with rfl | ho | ⟨r, b', m', h3, h4⟩
    ·omega
    ·exact hR.R.h.nO _ _ _ _ l5 f1 ho
    ·obtain ⟨b2, h5, h6, h7⟩ := (hpl2 r b' g m' h3 h4).2 hglt
     have e := hR.R.h.inj _ _ _ _ _ _ _ l5 h5 f1 h7
     subst e
     rw [(hl.lend q b h1).2.2.2.2.2] at h6; cases h6
   ·rcases hg with rfl | hg | ⟨r, b', m', h3, h4⟩
    ·omega
    ·have := hR.R.h.Olt g hg; omega
    ·have := (hpl2 r b' g m' h3 h4).1; omega
   ·refine ⟨cd, L, hrec2, rfl, rfl, hta, htb, rfl, rfl, hh2, fun _ h => h, fun g hg => .inr (.inl hg), .inl rfl, fun hg => (by have h := hR.R.h.Olt (w.heap.size + 1) hg; omega), fun r b g m h1 h2 => ⟨.inr (.inr ⟨r, b, m, h1, h2⟩), (by have h := (hpl2 r b g m h1 h2).1; show g ≠ w.heap.size + 1; omega)⟩, rfl, fun _ h => h, HB.refl _ _ _, fun _ _ => rfl⟩
   ·obtain ⟨ha, hcl⟩ := hR.R.h.gl g row hg
    exact ⟨ha, fun j x hx => let ⟨cv, h1, h2⟩ := hcl j x hx; ⟨cv, by rw [cell_of_heap (hwA g ha)]; exact h1, h2.mono (fun _ h => h) hwA⟩⟩
  -- the one call
  have hfv2 := hfv.mono hwA (HStep.refl c (look σ.heap) (fun r => r < σ.nx))
  obtain ⟨fs, cs, hof, l1, l2, r1, r2⟩ := ofValue_run (P := P) hc hfv2 #[.func (.yield (w.heap.size + 1)) #[] #[]]
  obtain ⟨fnb, b1, b2, b3⟩ := hasBody_ok hbd
  have hres : (resolve a.eval (rangeCall fo (w.heap.size + 1)) 0).run P w2 = .ok { target := .fn (.func g) cs.toArray, args := fs.toArray ++ #[.func (.yield (w.heap.size + 1)) #[] #[]] } w2 := by
   rw [← hof]; simp [resolve, rangeCall, Act.eval]
  have hinv : (invoke (.fn (.func g) cs.toArray) (fs.toArray ++ #[.func (.yield (w.heap.size + 1)) #[] #[]])).run P w2 = .ok (.enter g (fs.toArray ++ #[.func (.yield (w.heap.size + 1)) #[] #[]] ++ cs.toArray)) w2 := callFunc_run b1 b2 b3 w2
  refine ⟨w.heap.size + 1, [{ target := .collected w.heap.size, args := #[] }], w2, _, w2, g, _, w2, ?_, hres, fun f' _ => trivial, hinv, fun h => (by cases h), ?_⟩
  ·rw [← hw2, ← hw1]; exact run_enterLoop_outer (w := w) _ _ _ _ _
  refine CallsIn.mono (hS cg w2 _ ?_ (fun i x v hx hv => ?_) hhg) ?_
  ·have := congrArg List.length hvs
   rw [rens_map, List.length_map] at this
   simp at this ⊢; omega
  ·have hv' : (fs ++ [.func (.yield (w.heap.size + 1)) #[] #[]] ++ cs)[i]? = some v := by
    have := congrArg Array.toList (show fs.toArray ++ #[Value.func (.yield (w.heap.size + 1)) #[] #[]] ++ cs.toArray = (fs ++ [Value.func (.yield (w.heap.size + 1)) #[] #[]] ++ cs).toArray by simp)
    rw [← Array.getElem?_toList, this] at hv; exact hv
   have hx' : (first ++ [V.yld] ++ caps)[i]? = some (x.ren ρ) := by rw [hvs, rens_map, List.getElem?_map, hx]; rfl
   have fin : VRel { c with y := w.heap.size + 1 } (look σ.heap) (fun r => r < σ.nx) w2 (x.ren ρ) v → VRel cg (look H0) (fun r => r < n0) w2 x v := fun h =>
    ren_in (c := { c with y := w.heap.size + 1 }) (c0 := cg) (ρ := ρ) (H := look σ.heap) (U := fun r => r < σ.nx) (fun _ => rfl) (fun _ h => h) rfl (fun q b hq => (hl.lend q b hq).2.2.2.2.1) (okRs_get _ i x hok hx) h
   by_cases h1 : i < first.length
   ·rw [List.append_assoc, List.getElem?_append_left h1] at hx'
    rw [List.append_assoc, List.getElem?_append_left (by omega)] at hv'
    exact fin ((r1 i _ v hx' hv').atY (noYs_get _ i _ hny.1 hx') (fun _ => rfl) (fun _ h => h))
   ·by_cases h2 : i < first.length + 1
    ·have hi : i = first.length := by omega
     subst hi
     rw [List.append_assoc, List.getElem?_append_right (Nat.le_refl _)] at hx'
     rw [List.append_assoc, List.getElem?_append_right (by omega)] at hv'
     have e0 : first.length - fs.length = 0 := by omega
     rw [e0] at hv'
     simp at hx' hv'
     have : x = .yld := by cases x <;> simp [V.ren] at hx' <;> rfl
     subst this; subst hv'
     exact .yld
    ·rw [List.getElem?_append_right (by simp; omega)] at hx'
     rw [List.getElem?_append_right (by simp; omega)] at hv'
     have e : i - (fs ++ [Value.func (.yield (w.heap.size + 1)) #[] #[]]).length = i - (first ++ [V.yld]).length := by simp; omega
     rw [e] at hv'
     exact fin ((r2 _ _ v hx' hv').atY (noYs_get _ _ _ hny.2 hx') (fun _ => rfl) (fun _ h => h))
  rintro e w3 ⟨rv, c1, rfl, hv, hs3, hh3, hx3⟩
  obtain ⟨c2, L2, k⟩ := hh3.fr
  have hy1 : c1.y = w.heap.size + 1 := hx3.hy
  rw [hy1] at k
  have hend := run_endLoop (P := P) k.rc (by rw [k.st]; cases pend <;> simp)
  generalize hw4 : w3.putObj (w.heap.size + 1) (.loop { L2 with state := .exhausted }) = w4 at hend
  rw [k.pend] at hend
  have hoth4 : ∀ g, g ≠ w.heap.size + 1 → w4.heap[g]? = w3.heap[g]? := fun g hg => by rw [← hw4]; exact World.putObj_heap_other hg
  have hsz4 : w4.heap.size = w3.heap.size := by rw [← hw4]; simp
  have hos4 : w4.os = w3.os ∧ w4.tape = w3.tape ∧ w4.output = w3.output := by rw [← hw4]; exact ⟨rfl, rfl, rfl⟩
  have hos2 : w2.os = w.os ∧ w2.tape = w.tape ∧ w2.output = w.output := by rw [← hw2, ← hw1]; exact ⟨rfl, rfl, rfl⟩
  have hle3 := hx3.size
  let cN : Cx := { fm := c2.fm, A := c1.A, O := c2.O, y := c2.y }
  have hcy : c2.y = c.y := k.hy
  have hyA : ¬ c1.A (w.heap.size + 1) := fun ha => hh3.AO _ ha k.oy
  have hO1 : ∀ g, c1.O g → w.heap.size ≤ g ∨ c.O g ∨ ∃ r0 b0 m0, look σ.heap r0 = some b0 ∧ c.fm r0 = some (g, m0) := fun g hg => by
   rcases hx3.O' g hg with h | h | ⟨q, b, m, h1, h2⟩
   ·exact .inl (by omega)
   ·exact hyO g h
   ·exact .inr (.inr ⟨_, _, m, (hl.lend q b h1).2.2.2.2.1, h2⟩)
  have hsame3 : ∀ g, g < w.heap.size → (∀ r b m, look σ.heap r = some b → c.fm r ≠ some (g, m)) → ¬ c.O g → w4.heap[g]? = w.heap[g]? := fun g hg hn ho => by
   rw [hoth4 g (by omega), hx3.same g (by omega) (fun q b m h1 hf => hn _ _ m (hl.lend q b h1).2.2.2.2.1 hf) (fun h => ?_), hwo g hg]
   rcases hyO g h with h | h | ⟨r0, b0, m0, h1, h2⟩
   ·omega
   ·exact ho h
   ·exact hn _ _ _ h1 h2
  have hsameA : ∀ g, c.A g → w4.heap[g]? = w2.heap[g]? := fun g hg => by
   rw [hsame3 g (hR.R.h.Alt g hg) (fun r b m h1 hf => hR.R.h.nA _ _ _ _ h1 hf hg) (hR.R.h.AO g hg), hwA g hg]
  have hhN : HRel G cN (look hN) (fun r => r < σ.nx + 1) σ.fr w4 := by
   have h1 : HRel G { c2 with A := c1.A } (look hN) (fun r => r < σ.nx + 1) σ.fr w3 := k.hr.growA k.hA (fun r b g m h1 h2 ha => hh3.AO g ha (k.pl r b g m h1 h2).1) (fun g ha ho => hh3.AO g ha (k.hO g ho)) hh3.Alt
   exact h1.same (fun r b g m h2 h3 => hoth4 g (k.pl r b g m h2 h3).2) (fun g hg => hoth4 g (fun e => hyA (e ▸ hg))) (fun g hg => hoth4 g (fun e => k.ny (e ▸ hg)))
  have hbN : HB (σ.nx + 1) cd (look ((σ.nx, Blk.dm) :: h0)) cN (look hN) := ⟨k.hb.var, k.hb.row, k.hb.mp, k.hb.dm⟩
  have hstN : HStep cd (look ((σ.nx, Blk.dm) :: h0)) (fun r => r < σ.nx + 1) cN (look hN) (fun r => r < σ.nx + 1) := HB.step hbN hcy (fun g hg => hx3.A g hg) htok.lt
  have hRN : RelS G nt cN { env := env', heap := hN, nx := σ.nx + 1, fr := σ.fr, dfs := σ.nx :: σ.dfs, base := σ.base } { a with defers := [{ target := .collected w.heap.size, args := #[] }] ++ a.defers } w4 := by
   refine ⟨⟨hR.R.nt, fun q v hq => ?_, hhN⟩, ?_, Nat.le_trans hR.base (Nat.le_succ _)⟩
   ·obtain ⟨cv, h1, h2⟩ := htok.env q v hq
    exact ⟨cv, h1, h2.mono hsameA hstN⟩
   ·refine DfRel.mono hstN (l := σ.nx :: σ.dfs) ⟨w.heap.size, 0, a.defers, by rw [look_cons, if_pos rfl], upd_same _ _ _, rfl, ?_⟩
    exact DfRel.mono hst1 hRs.df
  have hWN : Went c σ w cN { env := env', heap := hN, nx := σ.nx + 1, fr := σ.fr, dfs := σ.nx :: σ.dfs, base := σ.base } w4 := by
   refine ⟨⟨by rw [hos4.1, hx3.os, hos2.1], by rw [hos4.2.1, hx3.tape, hos2.2.1], by rw [hos4.2.2, hx3.output, hos2.2.2], by omega, hcy, fun g hg hn ho => hsame3 g hg hn ho, fun r b g m h1 h2 => hO1 g (k.pl r b g m h1 h2).1, fun g hg => hx3.A g hg, fun g hg => ?_, fun g hg => hO1 g (k.hO g hg)⟩, ?_, rfl⟩
   ·rcases hx3.A' g hg with h | h | h | ⟨q, b, m, h1, h2⟩
    ·exact .inl h
    ·exact .inr (.inl (by omega))
    ·exact .inr (hyO g h)
    ·exact .inr (.inr (.inr ⟨_, _, m, (hl.lend q b h1).2.2.2.2.1, h2⟩))
   ·have hb1 : HB σ.base c (look h0) cd (look ((σ.nx, Blk.dm) :: h0)) := HB.of hR.base hst1
    have hb2 : HB σ.base cd (look ((σ.nx, Blk.dm) :: h0)) cN (look hN) := by
     have hle : ∀ r, r < σ.base → r < σ.nx + 1 := fun r hr => by have := hR.base; omega
     exact ⟨fun r T cs hr h => hbN.var r T cs (hle r hr) h, fun r T es xs hr h => hbN.row r T es xs (hle r hr) h, fun r es hr h => hbN.mp r es (hle r hr) h, fun r hr h => hbN.dm r (hle r hr) h⟩
    exact hWs.b.trans (hb1.trans hb2)
  refine ⟨pend, w4, hend, ?_⟩
  cases pend with
  | none => exact ⟨_, cN, hk, hRN, hWN⟩
  | some pc =>
   cases pc <;> try exact hk.elim
   case ret =>
    refine wpIn_mono (AW.ret (P := P) (F := Fence.wide) (Q := Q) hk .ret .ret cN _ w4 hRN) ?_
    rintro e a' w' ⟨σ', c', h1, h2, h3⟩
    exact ⟨σ', c', h1, h2, hWN.trans h3⟩
   case exit i =>
    refine wpIn_mono (AW.exit (P := P) (F := Fence.wide) (Q := Q) hk (.exit i) .exit cN _ w4 hRN) ?_
    rintro e a' w' ⟨σ', c', h1, h2, h3⟩
    exact ⟨σ', c', h1, h2, hWN.trans h3⟩
end
end Go.Abs
namespace Go.Abs
section
variable {P : Program} {G : Gl} {nt : Nat} {F : Fence} {K : St → List SD → Prop} {rest : List IOper} {σ : St} {sds : List SD} {g : Option (Nat × Bool)} {aft : List Nat}
theorem RunC.nw1 {t : Nat} {io : IOp} {xs : List (Opd × V)} {rs : List (Nat × Blk)} {v : V} {b : Blk} (h : LStp P G nt io xs rs v ⟨[(σ.nx, b)], [σ.nx]⟩ σ.fr σ.fr) (hg : Wants σ g) (hE : Evs G (look σ.env) xs) (hH : Rds (look σ.heap) rs)
  (k : RunC P G nt K rest (σ.nw t v b) (sds ++ [sdOf g xs rs ⟨[(σ.nx, b)], [σ.nx]⟩])) : RunC P G nt K (⟨some t, g, io, aft⟩ :: rest) σ sds := .step h hg hE hH rfl k
theorem RunC.tn1 {t : Nat} {io : IOp} {xs : List (Opd × V)} {rs : List (Nat × Blk)} {v : V} {r : Nat} {b : Blk} (h : LStp P G nt io xs rs v ⟨[(r, b)], []⟩ σ.fr σ.fr) (hg : Wants σ g) (hE : Evs G (look σ.env) xs) (hH : Rds (look σ.heap) rs)
  (k : RunC P G nt K rest ((σ.tn r b).put (some t) v) (sds ++ [sdOf g xs rs ⟨[(r, b)], []⟩])) : RunC P G nt K (⟨some t, g, io, aft⟩ :: rest) σ sds := .step h hg hE hH rfl k
theorem RunC.tn0 {io : IOp} {xs : List (Opd × V)} {rs : List (Nat × Blk)} {v : V} {r : Nat} {b : Blk} (h : LStp P G nt io xs rs v ⟨[(r, b)], []⟩ σ.fr σ.fr) (hg : Wants σ g) (hE : Evs G (look σ.env) xs) (hH : Rds (look σ.heap) rs)
  (k : RunC P G nt K rest (σ.tn r b) (sds ++ [sdOf g xs rs ⟨[(r, b)], []⟩])) : RunC P G nt K (⟨none, g, io, aft⟩ :: rest) σ sds := .step h hg hE hH rfl k
theorem Evs.appd {E : En} : ∀ {l m : List (Opd × V)}, Evs G E l → Evs G E m → Evs G E (l ++ m)
 | [], m, _, h => h
 | p :: l, m, h1, h => ⟨h1.1, Evs.appd h1.2 h⟩
theorem r_appO {t T T' es bytes : Nat} {s x : Opd} {r n q m : Nat} {xs ys : List (List D)} (hg : Wants σ g) (hs : ev G (look σ.env) s = some (.own r n)) (hx : ev G (look σ.env) x = some (.own q m)) (hr : look σ.heap r = some (.row T es xs)) (hq : look σ.heap q = some (.row T' es ys)) (hn : xs.length = n) (hm : ys.length = m) (hb : (xs.length + ys.length) * bytes ≤ 140737488355328)
  (k : RunC P G nt K rest ((σ.tn r (.row T es (xs ++ ys))).put (some t) (.own r (xs.length + ys.length))) (sds ++ [sdOf g [(s, .own r n), (x, .own q m)] [(r, .row T es xs), (q, .row T' es ys)] ⟨[(r, .row T es (xs ++ ys))], []⟩])) : RunC P G nt K (⟨some t, g, .app T es bytes s x, aft⟩ :: rest) σ sds := by
 subst hn; subst hm
 exact .tn1 (s_app (rs := [(r, .row T es xs), (q, .row T' es ys)]) (.own q T' ys (by simp)) (by simp) hb) hg ⟨hs, hx, trivial⟩ ⟨hr, hq, trivial⟩ k
theorem r_appF {t T T' es bytes : Nat} {s x : Opd} {q m : Nat} {xs ys : List (List D)} (hg : Wants σ g) (hs : ev G (look σ.env) s = some (.fsl es xs)) (hx : ev G (look σ.env) x = some (.own q m)) (hq : look σ.heap q = some (.row T' es ys)) (hm : ys.length = m) (hy : ys ≠ []) (hb : (xs.length + ys.length) * bytes ≤ 140737488355328)
  (k : RunC P G nt K rest (σ.nw t (.own σ.nx (xs.length + ys.length)) (.row T es (xs ++ ys))) (sds ++ [sdOf g [(s, .fsl es xs), (x, .own q m)] [(q, .row T' es ys)] ⟨[(σ.nx, .row T es (xs ++ ys))], [σ.nx]⟩])) : RunC P G nt K (⟨some t, g, .app T es bytes s x, aft⟩ :: rest) σ sds := by
 subst hm
 exact .nw1 (s_appF (rs := [(q, .row T' es ys)]) (.own q T' ys (by simp)) hy hb) hg ⟨hs, hx, trivial⟩ ⟨hq, trivial⟩ k
theorem r_iaO {d : Option Nat} {es : Nat} {x i : Opd} {r n : Nat} {k0 : IntKind} {iz : Int} {xs : List (List D)} {T : Nat} (hg : Wants σ g) (hx : ev G (look σ.env) x = some (.own r n)) (hi0 : ev G (look σ.env) i = some (.d (.int k0 iz))) (hr : look σ.heap r = some (.row T es xs)) (h0 : 0 ≤ iz) (hi : iz.toNat < n) (hl : xs.length = n)
  (k : RunC P G nt K rest (σ.put d (.eptr r n iz.toNat 0)) (sds ++ [sdOf g [(x, .own r n), (i, .d (.int k0 iz))] [(r, .row T es xs)] ⟨[], []⟩])) : RunC P G nt K (⟨d, g, .iaS es x i, aft⟩ :: rest) σ sds :=
 .val (s_iaO h0 hi hl) hg ⟨hx, hi0, trivial⟩ ⟨hr, trivial⟩ k
theorem r_iaD {d : Option Nat} {es : Nat} {x i : Opd} {k0 : IntKind} {iz : Int} {xs : List (List D)} {row : List D} (hg : Wants σ g) (hx : ev G (look σ.env) x = some (.d (.sl es xs))) (hi0 : ev G (look σ.env) i = some (.d (.int k0 iz))) (h0 : 0 ≤ iz) (hi : xs[iz.toNat]? = some row)
  (k : RunC P G nt K rest (σ.put d (.fp row 0)) (sds ++ [sdOf g [(x, .d (.sl es xs)), (i, .d (.int k0 iz))] [] ⟨[], []⟩])) : RunC P G nt K (⟨d, g, .iaS es x i, aft⟩ :: rest) σ sds :=
 .val (s_iaD h0 hi) hg ⟨hx, hi0, trivial⟩ trivial k
theorem r_iaV {d : Option Nat} {n es : Nat} {x i : Opd} {r off : Nat} {k0 : IntKind} {iz : Int} {T : Nat} {cs : List V} (hg : Wants σ g) (hx : ev G (look σ.env) x = some (.ptr r off)) (hi0 : ev G (look σ.env) i = some (.d (.int k0 iz))) (hr : look σ.heap r = some (.var T cs)) (h0 : 0 ≤ iz) (hi : iz.toNat < n)
  (k : RunC P G nt K rest (σ.put d (.ptr r (off + iz.toNat * es))) (sds ++ [sdOf g [(x, .ptr r off), (i, .d (.int k0 iz))] [(r, .var T cs)] ⟨[], []⟩])) : RunC P G nt K (⟨d, g, .iaA n es x i, aft⟩ :: rest) σ sds :=
 .val (s_iaV h0 hi) hg ⟨hx, hi0, trivial⟩ ⟨hr, trivial⟩ k
theorem r_iaF {d : Option Nat} {n es : Nat} {x i : Opd} {row : List D} {off : Nat} {k0 : IntKind} {iz : Int} (hg : Wants σ g) (hx : ev G (look σ.env) x = some (.fp row off)) (hi0 : ev G (look σ.env) i = some (.d (.int k0 iz))) (h0 : 0 ≤ iz) (hi : iz.toNat < n)
  (k : RunC P G nt K rest (σ.put d (.fp row (off + iz.toNat * es))) (sds ++ [sdOf g [(x, .fp row off), (i, .d (.int k0 iz))] [] ⟨[], []⟩])) : RunC P G nt K (⟨d, g, .iaA n es x i, aft⟩ :: rest) σ sds :=
 .val (s_iaF h0 hi) hg ⟨hx, hi0, trivial⟩ trivial k
theorem r_storeE {sz : Nat} {x y : Opd} {r n i off T es : Nat} {xs : List (List D)} {row vs : List D} {u : V} {us : List V} (hg : Wants σ g) (hx : ev G (look σ.env) x = some (.eptr r n i off)) (hy : ev G (look σ.env) y = some u) (hr : look σ.heap r = some (.row T es xs)) (hl : xs.length = n) (hi : xs[i]? = some row) (hu : cellsOf u = some us) (huv : unV us = some vs) (hsz : vs.length = sz) (ho : off + sz ≤ row.length)
  (k : RunC P G nt K rest (σ.tn r (.row T es (xs.set i (spl row off vs)))) (sds ++ [sdOf g [(x, .eptr r n i off), (y, u)] [(r, .row T es xs)] ⟨[(r, .row T es (xs.set i (spl row off vs)))], []⟩])) : RunC P G nt K (⟨none, g, .store sz x y, aft⟩ :: rest) σ sds :=
 .tn0 (s_storeE hl hi hu huv hsz ho) hg ⟨hx, hy, trivial⟩ ⟨hr, trivial⟩ k
theorem r_aeq {d : Option Nat} {neg : Bool} {t : Nat} {x y : Opd} {vx vy : List V} {xs ys : List D} {ks : List Nat} {r : Bool} (hg : Wants σ g) (hx : ev G (look σ.env) x = some (.agg vx)) (hy : ev G (look σ.env) y = some (.agg vy)) (hux : unV vx = some xs) (huy : unV vy = some ys) (hf : FlatT P t ks) (hlx : Nat.beq xs.length ks.length = true) (hly : Nat.beq ys.length ks.length = true) (he : eqDs ks xs ys = some r)
  (k : RunC P G nt K rest (σ.put d (.d (.bool (neg != r)))) (sds ++ [sdOf g [(x, .agg (xs.map .d)), (y, .agg (ys.map .d))] [] ⟨[], []⟩])) : RunC P G nt K (⟨d, g, .aeq neg t x y, aft⟩ :: rest) σ sds := by
 have e1 := unV_eq hux; have e2 := unV_eq huy
 subst e1; subst e2
 exact .val (s_aeq hf (Nat.eq_of_beq_eq_true hlx) (Nat.eq_of_beq_eq_true hly) he) hg ⟨hx, hy, trivial⟩ trivial k
theorem r_sh {d : Option Nat} {op : BinOp} {x y : Opd} {k0 ky : IntKind} {p q r : Int} (hg : Wants σ g) (hx : ev G (look σ.env) x = some (.d (.int k0 p))) (hy : ev G (look σ.env) y = some (.d (.int ky q))) (hr : shR op k0 p q = some r)
  (k : RunC P G nt K rest (σ.put d (.d (.int k0 r))) (sds ++ [sdOf g [(x, .d (.int k0 p)), (y, .d (.int ky q))] [] ⟨[], []⟩])) : RunC P G nt K (⟨d, g, .bin op x y, aft⟩ :: rest) σ sds :=
 .val (s_sh hr) hg ⟨hx, hy, trivial⟩ trivial k
theorem r_lookupF {d : Option Nat} {kt : Nat} {ok ag : Bool} {z : List D} {x k0 : Opd} {es : List (DV × DV)} {vk : List V} {key : List D} {ks : List Nat} {res : Option (Nat × DV)} (hg : Wants σ g) (hx : ev G (look σ.env) x = some (.fmp es)) (hk0 : ev G (look σ.env) k0 = some (.agg vk)) (huk : unV vk = some key) (hf : FlatT P kt ks) (hk : key.length = ks.length)
  (hes : ∀ (i : Nat) xs v, es[i]? = some (.a xs, v) → xs.length = ks.length) (hl : lookD ks es key 0 = some res) (hz : dvV ag z ≠ .undef)
  (k : RunC P G nt K rest (σ.put d (okV ok (lookV z ag res) res.isSome)) (sds ++ [sdOf g [(x, .fmp es), (k0, .agg (key.map .d))] [] ⟨[], []⟩])) : RunC P G nt K (⟨d, g, .lookup kt ok z ag x k0, aft⟩ :: rest) σ sds := by
 have e := unV_eq huk
 subst e
 exact .val (s_lookupF hf hk hes hl hz) hg ⟨hx, hk0, trivial⟩ trivial k
theorem r_mapup {kt : Nat} {m k0 x : Opd} {r : Nat} {es : List (DV × DV)} {vk : List V} {key : List D} {v : V} {dv : DV} {ks : List Nat} (hg : Wants σ g) (hm : ev G (look σ.env) m = some (.map r)) (hk0 : ev G (look σ.env) k0 = some (.agg vk)) (huk : unV vk = some key) (hx : ev G (look σ.env) x = some v) (hr : look σ.heap r = some (.mp es)) (hf : FlatT P kt ks) (hk : key.length = ks.length)
  (hes : ∀ (i : Nat) xs v, es[i]? = some (.a xs, v) → xs.length = ks.length) (hl : lookD ks es key 0 = some none) (hv : dvOf v = some dv)
  (k : RunC P G nt K rest (σ.tn r (.mp (es ++ [(.a key, dv)]))) (sds ++ [sdOf g [(m, .map r), (k0, .agg (key.map .d)), (x, v)] [(r, .mp es)] ⟨[(r, .mp (es ++ [(.a key, dv)]))], []⟩])) : RunC P G nt K (⟨none, g, .mapup kt m k0 x, aft⟩ :: rest) σ sds := by
 have e := unV_eq huk
 subst e
 exact .tn0 (s_mapup hf hk hes hl hv) hg ⟨hm, hk0, hx, trivial⟩ ⟨hr, trivial⟩ k
theorem r_callF {d : Option Nat} {f : Nat} {args : List Opd} {vs vs' : List V} {rs : List (Nat × Blk)} {r : V} (hg : Wants σ g) (hx : evs G (look σ.env) args = some vs) (h : PCall P G f vs' r) (hrd : Rds (look σ.heap) rs) (hz : FrzL (look rs) vs vs') (hl : Nat.beq args.length vs.length = true) (hok : V.okR.okRs 0 (fun _ => false) vs' = true) (hns : r.noSl = true)
  (k : RunC P G nt K rest (σ.put d r) (sds ++ [sdOf g (args.zip vs) rs ⟨[], []⟩])) : RunC P G nt K (⟨d, g, .call f args, aft⟩ :: rest) σ sds :=
 .val (s_callF h hz (fun q b hq => look_mem hq) (Nat.eq_of_beq_eq_true hl) hok hns) hg (Evs.zip hx) hrd k
def St.cl (σ : St) (d : Option Nat) (v : V) (st : List (Nat × Blk)) (n : Nat) (fr : Fr) : St := (⟨σ.env, st ++ σ.heap, σ.nx + n, fr, σ.dfs, σ.base⟩ : St).put d v
theorem RunC.cl {d : Option Nat} {io : IOp} {xs : List (Opd × V)} {rs : List (Nat × Blk)} {v : V} {st : List (Nat × Blk)} {n : Nat} (h : LStp P G nt io xs rs v ⟨st, List.range' σ.nx n⟩ σ.fr σ.fr) (hg : Wants σ g) (hE : Evs G (look σ.env) xs) (hH : Rds (look σ.heap) rs)
  (k : RunC P G nt K rest (σ.cl d v st n σ.fr) (sds ++ [sdOf g xs rs ⟨st, List.range' σ.nx n⟩])) : RunC P G nt K (⟨d, g, io, aft⟩ :: rest) σ sds := by
 refine .step h hg hE hH (by simp) ?_
 cases d <;> simpa [St.app, St.cl, St.put] using k
theorem RunC.clF {d : Option Nat} {io : IOp} {xs : List (Opd × V)} {rs : List (Nat × Blk)} {v : V} {st : List (Nat × Blk)} {n : Nat} {fr : Fr} (h : LStp P G nt io xs rs v ⟨st, List.range' σ.nx n⟩ σ.fr fr) (hg : Wants σ g) (hE : Evs G (look σ.env) xs) (hH : Rds (look σ.heap) rs)
  (k : RunC P G nt K rest (σ.cl d v st n fr) (sds ++ [sdF g xs rs ⟨st, List.range' σ.nx n⟩])) : RunC P G nt K (⟨d, g, io, aft⟩ :: rest) σ sds := by
 refine .stepF h hg hE hH (by simp) ?_
 cases d <;> simpa [St.app, St.cl, St.put] using k
theorem r_callZ {d : Option Nat} {f : Nat} {args : List Opd} {vs vs' : List V} {zr : List (Nat × Blk)} {r : V} (hg : Wants σ g) (hx : evs G (look σ.env) args = some vs) (h : PCall P G f vs' r) (hrd : Rds (look σ.heap) zr) (hz : FrzL (look zr) vs vs') (hzr : allL (fun p => isRow p.2) zr = true) (hl : Nat.beq args.length vs.length = true) (hok : V.okR.okRs 0 (fun _ => false) vs' = true) (hr : r.okR 0 (fun _ => false) = true)
  (k : RunC P G nt K rest (σ.cl d r (deadL (keysL zr)) 0 σ.fr) (sds ++ [sdOf g (args.zip vs) zr ⟨deadL (keysL zr), List.range' σ.nx 0⟩])) : RunC P G nt K (⟨d, g, .call f args, aft⟩ :: rest) σ sds :=
 .cl (n := 0) (s_callZ h hz hzr (Nat.eq_of_beq_eq_true hl) hok hr) hg (Evs.zip hx) hrd k
theorem r_callvZ {d : Option Nat} {f : Nat} {x : Opd} {u : V} {first caps : List V} {args : List Opd} {vs vs' : List V} {zr : List (Nat × Blk)} {r : V} (hg : Wants σ g) (hxv : ev G (look σ.env) x = some u) (hc : Callee u f first caps) (hbd : hasBody P f = true) (hx : evs G (look σ.env) args = some vs) (h : PCall P G f vs' r) (hrd : Rds (look σ.heap) zr) (hz : FrzL (look zr) (first ++ vs ++ caps) vs') (hzr : allL (fun p => isRow p.2) zr = true)
  (hl : Nat.beq args.length vs.length = true) (hok : V.okR.okRs 0 (fun _ => false) vs' = true) (hr : r.okR 0 (fun _ => false) = true)
  (k : RunC P G nt K rest (σ.cl d r (deadL (keysL zr)) 0 σ.fr) (sds ++ [sdOf g ((x, u) :: args.zip vs) zr ⟨deadL (keysL zr), List.range' σ.nx 0⟩])) : RunC P G nt K (⟨d, g, .callv x args, aft⟩ :: rest) σ sds :=
 .cl (n := 0) (s_callvZ hc hbd h hz hzr (Nat.eq_of_beq_eq_true hl) hok hr) hg ⟨hxv, Evs.zip hx⟩ hrd k
theorem r_callS {d : Option Nat} {f : Nat} {args : List Opd} {vs vs0 : List V} {H0 H1 zr : List (Nat × Blk)} {n0 n1 : Nat} {r0 : V} (ns : List Nat) (hg : Wants σ g) (hx : evs G (look σ.env) args = some vs) (h : SCall P G f vs0 H0 n0 Fr.emp r0 H1 n1 Fr.emp) (hrd : Rds (look σ.heap) (renL (rnm ns σ.nx) H0 ++ zr)) (hl : lendB (rnm ns σ.nx) H0 n0 H1 (keysL zr) (List.range' σ.nx (n1 - n0)) = true)
  (hzr : allL (fun p => isRow p.2) zr = true) (hz : FrzL (look zr) vs (V.ren.rens (rnm ns σ.nx) vs0)) (hok : V.okR.okRs n0 (fun q => (look H0 q).isSome) vs0 = true) (hno : r0.ownIn (fun q => (look H1 q).isSome) = true) (hal : Nat.beq args.length vs.length = true)
  (k : RunC P G nt K rest (σ.cl d (r0.ren (rnm ns σ.nx)) (renL (rnm ns σ.nx) H1 ++ deadL (keysL zr)) (n1 - n0) σ.fr) (sds ++ [sdOf g (args.zip vs) (renL (rnm ns σ.nx) H0 ++ zr) ⟨renL (rnm ns σ.nx) H1 ++ deadL (keysL zr), List.range' σ.nx (n1 - n0)⟩])) : RunC P G nt K (⟨d, g, .call f args, aft⟩ :: rest) σ sds :=
 .cl (n := n1 - n0) (s_callS (h.frame σ.fr) (rnm ns σ.nx) zr (Lend.of hl) hzr hz hok hno (Nat.eq_of_beq_eq_true hal)) hg (Evs.zip hx) hrd k
theorem r_callvS {d : Option Nat} {f : Nat} {x : Opd} {u : V} {first caps : List V} {args : List Opd} {vs vs0 : List V} {H0 H1 zr : List (Nat × Blk)} {n0 n1 : Nat} {r0 : V} {fr' : Fr} (ns : List Nat) (hg : Wants σ g) (hxv : ev G (look σ.env) x = some u) (hc : Callee u f first caps) (hbd : hasBody P f = true) (hx : evs G (look σ.env) args = some vs) (h : SCall P G f vs0 H0 n0 σ.fr r0 H1 n1 fr') (hrd : Rds (look σ.heap) (renL (rnm ns σ.nx) H0 ++ zr))
  (hl : lendB (rnm ns σ.nx) H0 n0 H1 (keysL zr) (List.range' σ.nx (n1 - n0)) = true) (hzr : allL (fun p => isRow p.2) zr = true) (hz : FrzL (look zr) (first ++ vs ++ caps) (V.ren.rens (rnm ns σ.nx) vs0)) (hok : V.okR.okRs n0 (fun q => (look H0 q).isSome) vs0 = true) (hno : r0.ownIn (fun q => (look H1 q).isSome) = true) (hal : Nat.beq args.length vs.length = true)
  (k : RunC P G nt K rest (σ.cl d (r0.ren (rnm ns σ.nx)) (renL (rnm ns σ.nx) H1 ++ deadL (keysL zr)) (n1 - n0) fr') (sds ++ [sdF g ((x, u) :: args.zip vs) (renL (rnm ns σ.nx) H0 ++ zr) ⟨renL (rnm ns σ.nx) H1 ++ deadL (keysL zr), List.range' σ.nx (n1 - n0)⟩])) : RunC P G nt K (⟨d, g, .callv x args, aft⟩ :: rest) σ sds :=
 .clF (n := n1 - n0) (s_callvS hc hbd h (rnm ns σ.nx) zr (Lend.of hl) hzr hz hok hno (Nat.eq_of_beq_eq_true hal)) hg ⟨hxv, Evs.zip hx⟩ hrd k
theorem r_callvE {d : Option Nat} {f : Nat} {x : Opd} {u : V} {first caps : List V} {args : List Opd} {vs vs0 : List V} {H0 H1 zr : List (Nat × Blk)} {n0 n1 : Nat} {r0 : V} (ns : List Nat) (hg : Wants σ g) (hxv : ev G (look σ.env) x = some u) (hc : Callee u f first caps) (hbd : hasBody P f = true) (hx : evs G (look σ.env) args = some vs) (h : SCall P G f vs0 H0 n0 Fr.emp r0 H1 n1 Fr.emp) (hrd : Rds (look σ.heap) (renL (rnm ns σ.nx) H0 ++ zr))
  (hl : lendB (rnm ns σ.nx) H0 n0 H1 (keysL zr) (List.range' σ.nx (n1 - n0)) = true) (hzr : allL (fun p => isRow p.2) zr = true) (hz : FrzL (look zr) (first ++ vs ++ caps) (V.ren.rens (rnm ns σ.nx) vs0)) (hok : V.okR.okRs n0 (fun q => (look H0 q).isSome) vs0 = true) (hno : r0.ownIn (fun q => (look H1 q).isSome) = true) (hal : Nat.beq args.length vs.length = true)
  (k : RunC P G nt K rest (σ.cl d (r0.ren (rnm ns σ.nx)) (renL (rnm ns σ.nx) H1 ++ deadL (keysL zr)) (n1 - n0) σ.fr) (sds ++ [sdOf g ((x, u) :: args.zip vs) (renL (rnm ns σ.nx) H0 ++ zr) ⟨renL (rnm ns σ.nx) H1 ++ deadL (keysL zr), List.range' σ.nx (n1 - n0)⟩])) : RunC P G nt K (⟨d, g, .callv x args, aft⟩ :: rest) σ sds :=
 .cl (n := n1 - n0) (s_callvS hc hbd (h.frame σ.fr) (rnm ns σ.nx) zr (Lend.of hl) hzr hz hok hno (Nat.eq_of_beq_eq_true hal)) hg ⟨hxv, Evs.zip hx⟩ hrd k
theorem r_yield {d : Option Nat} {x : Opd} {args : List Opd} {vs vs' : List V} {zr : List (Nat × Blk)} {r : V} {fr' : Fr} (hg : Wants σ g) (hxv : ev G (look σ.env) x = some .yld) (hx : evs G (look σ.env) args = some vs) (h : YCall P G σ.fr vs' r fr') (hrd : Rds (look σ.heap) zr) (hz : FrzL (look zr) vs vs') (hzr : allL (fun p => isRow p.2) zr = true) (hl : Nat.beq args.length vs.length = true) (hok : V.okR.okRs 0 (fun _ => false) vs' = true) (hr : r.okR 0 (fun _ => false) = true)
  (k : RunC P G nt K rest (σ.cl d r (deadL (keysL zr)) 0 fr') (sds ++ [sdF g ((x, .yld) :: args.zip vs) zr ⟨deadL (keysL zr), List.range' σ.nx 0⟩])) : RunC P G nt K (⟨d, g, .callv x args, aft⟩ :: rest) σ sds :=
 .clF (n := 0) (s_yield h hz hzr (Nat.eq_of_beq_eq_true hl) hok hr) hg ⟨hxv, Evs.zip hx⟩ hrd k
end
end Go.Abs
namespace Go.Abs
section
variable {P : Program} {G : Gl} {nt : Nat} {F : Fence}
theorem run_textL (hF : FOk F) {ops : Array Oper} {K : St → List SD → Prop} {c0 : Cx} {σ0 : St} {w0 : World} {Q : Exit → Act → World → Prop} {tl : List Nat}
  (hQ : ∀ σ sds c a w, K σ sds → RelS G nt c σ a w → Went c0 σ0 w0 c σ w → wpOpsIn F 0 P ops Q tl a w) :
  ∀ {rest : List IOper} {σ : St} {sds : List SD}, RunC P G nt K rest σ sds → ∀ (i : Nat) (c : Cx) (a : Act) (w : World), i + rest.length ≤ ops.size → (∀ (j : Nat) (o : Oper) (io : IOper), ops[i + j]? = some o → rest[j]? = some io → TrOper P nt ops o io) →
   RelS G nt c σ a w → Went c0 σ0 w0 c σ w → wpOpsIn F 0 P ops Q (List.range' i rest.length ++ tl) a w := by
 intro rest σ sds h
 induction h with
 | nil h => intro i c a w _ _ hR hx; exact hQ _ _ _ _ _ h hR hx
 | @step σ sds o rest xs rs v e h hg hE hH hn k ih =>
  intro i c a w hl ht hR hx
  have hlt : i < ops.size := by simp at hl; omega
  have hto := ht 0 (ops[i]) o (by simp [hlt]) (by simp)
  rw [List.length_cons, List.range'_succ, List.cons_append, wpOpsIn, Array.getElem?_eq_getElem hlt]
  simp only [wanted_of hR hto hg, if_true]
  refine h _ _ _ _ F c a w _ Q hto.op hF hR.R hE hH (fresh_range hn) fun c' cv w' hs hR' hv hx' => ?_
  rw [hto.dst]
  refine ih (i + 1) c' _ w' (by simp at hl; omega) (fun j o io ho hio => ht (j + 1) o io (by rw [← ho]; congr 1; omega) (by simpa using hio)) (hR.app hto.lt hn hs hR' hv) ?_
  have hh : look (σ.app o.dst v e σ.fr).heap = hpOf e.st (look σ.heap) := by cases o.dst <;> simp [St.app, look_app]
  exact hx.trans ⟨by rw [hh]; exact hx', by rw [hh]; exact HB.of hR.base hs, by cases o.dst <;> rfl⟩
 | @stepF σ sds o rest xs rs v e fr h hg hE hH hn k ih =>
  intro i c a w hl ht hR hx
  have hlt : i < ops.size := by simp at hl; omega
  have hto := ht 0 (ops[i]) o (by simp [hlt]) (by simp)
  rw [List.length_cons, List.range'_succ, List.cons_append, wpOpsIn, Array.getElem?_eq_getElem hlt]
  simp only [wanted_of hR hto hg, if_true]
  refine h _ _ _ _ F c a w _ Q hto.op hF hR.R hE hH (fresh_range hn) fun c' cv w' hs hR' hv hx' => ?_
  rw [hto.dst]
  refine ih (i + 1) c' _ w' (by simp at hl; omega) (fun j o io ho hio => ht (j + 1) o io (by rw [← ho]; congr 1; omega) (by simpa using hio)) (hR.app hto.lt hn hs hR' hv) ?_
  have hh : look (σ.app o.dst v e fr).heap = hpOf e.st (look σ.heap) := by cases o.dst <;> simp [St.app, look_app]
  exact hx.trans ⟨by rw [hh]; exact hx', by rw [hh]; exact HB.of hR.base hs, by cases o.dst <;> rfl⟩
 | @skip σ sds o rest hg k ih =>
  intro i c a w hl ht hR hx
  have hlt : i < ops.size := by simp at hl; omega
  have hto := ht 0 (ops[i]) o (by simp [hlt]) (by simp)
  rw [List.length_cons, List.range'_succ, List.cons_append, wpOpsIn, Array.getElem?_eq_getElem hlt]
  simp only [unwanted_of hR hto hg]
  refine ⟨fun f _ => hF.fn f, ?_⟩
  rw [hto.dst]
  refine ih (i + 1) c _ w (by simp at hl; omega) (fun j o io ho hio => ht (j + 1) o io (by rw [← ho]; congr 1; omega) (by simpa using hio)) (hR.put hto.lt .undef) ?_
  exact hx.trans (by cases o.dst <;> exact ⟨Ext.refl _ _ _, HB.refl _ _ _, rfl⟩)
 | know h k ih =>
  intro i c a w hl ht hR hx
  exact ih i c a w hl ht (hR.know h) (hx.trans ⟨Ext.refl _ _ _, HB.refl _ _ _, rfl⟩)
def RW (P : Program) (G : Gl) (nt : Nat) (F : Fence) (rest : List IOper) (Q : Post) (σ : St) : Prop :=
 ∀ (ops : Array Oper) (i : Nat), i + rest.length = ops.size → (∀ (j : Nat) (o : Oper) (io : IOper), ops[i + j]? = some o → rest[j]? = some io → TrOper P nt ops o io) →
  ∀ (c0 : Cx) (σ0 : St) (w0 : World) (c : Cx) (a : Act) (w : World), RelS G nt c σ a w → Went c0 σ0 w0 c σ w → wpOpsIn F 0 P ops (Holds G nt c0 σ0 w0 Q) (List.range' i rest.length) a w
theorem AW.regW {ops : List IOper} {Q : Post} {σ : St} (h : RW P G nt F ops Q σ) : AW P G nt F (.reg false ops) Q σ := by
 intro code ht c a w hR
 cases ht with
 | @reg id cops _ hl ht =>
  refine wpIn_region ?_
  rw [List.range_eq_range', hl]
  exact h cops 0 (by omega) (fun j o io ho hio => ht j o io (by simpa using ho) hio) c σ w c a w hR (Went.refl _ _ _)
theorem RW.run (hF : FOk F) (n : Nat) {ops : List IOper} {Q : Post} {σ : St} (h : RunC P G nt (fun σ' _ => RW P G nt F (ops.drop n) Q σ') (ops.take n) σ []) : RW P G nt F ops Q σ := by
 intro cops i hl ht c0 σ0 w0 c a w hR hW
 have hlen : ops.length = (ops.take n).length + (ops.drop n).length := by rw [← List.length_append, List.take_append_drop]
 have hrange : List.range' i ops.length = List.range' i (ops.take n).length ++ List.range' (i + (ops.take n).length) (ops.drop n).length := by
  rw [hlen, List.range'_append_1]
 rw [hrange]
 refine run_textL hF (fun σ' sds c' a' w' hk' hR' hx => ?_) h i c a w (by omega) (fun j o io ho hio => ht j o io ho ?_) hR hW
 ·refine hk' cops (i + (ops.take n).length) (by omega) (fun j o io ho hio => ht ((ops.take n).length + j) o io (by rw [← ho]; congr 1; omega) ?_) c0 σ0 w0 c' a' w' hR' hx
  have : ops[(ops.take n).length + j]? = (ops.take n ++ ops.drop n)[(ops.take n).length + j]? := by rw [List.take_append_drop]
  rw [this, List.getElem?_append_right (by omega)]
  rw [← hio]; congr 1; omega
 ·have hj := (List.getElem?_eq_some_iff.1 hio).1
  have : ops[j]? = (ops.take n ++ ops.drop n)[j]? := by rw [List.take_append_drop]
  rw [this, List.getElem?_append_left hj]; exact hio
theorem RW.nil {Q : Post} {σ : St} (h : Q .normal σ) : RW P G nt F [] Q σ := by
 intro cops i hl ht c0 σ0 w0 c a w hR hW
 exact ⟨σ, c, h, hR, hW⟩
theorem RW.sub (hF : FOk F) {ops : List IOper} {Q : Post} {σ σ' : St} (hs : σ'.Sub σ) (h : RW P G nt F ops Q σ') : RW P G nt F ops Q σ := by
 intro cops i hl ht c0 σ0 w0 c a w hR hW
 obtain ⟨hR', hx⟩ := hR.sub hs
 exact h cops i hl ht c0 σ0 w0 c a w hR' (hW.trans hx)
end
end Go.Abs
namespace Go.Abs
structure SR where
 xs : List (Opd × V)
 rs : List (Nat × Blk)
 v : V
 e : Eff
section
variable {P : Program} {nt : Nat} {G : Gl}
theorem s_quoW {x y : Opd} {k : IntKind} {p q : Int} {fr : Fr} (hq : q ≠ 0) : LStp P G nt (.bin .quo x y) [(x, .d (.int k p)), (y, .d (.int k q))] [] (.d (.int k (k.wrap (p.tdiv q)))) ⟨[], []⟩ fr fr :=
 s_binop (fun t w => by simp [binOp, Op.intArith, Op.intDiv, hq]) (fun _ _ _ _ => .d _ _ (.int _ _))
def asI : Option V → Option (IntKind × Int) | some (.d (.int k p)) => some (k, p) | _ => none
def asB : Option V → Option Bool | some (.d (.bool b)) => some b | _ => none
def asP : Option V → Option (Nat × Nat) | some (.ptr r o) => some (r, o) | _ => none
def asF : Option V → Option (List D × Nat) | some (.fp row o) => some (row, o) | _ => none
def asE : Option V → Option ((Nat × Nat) × (Nat × Nat)) | some (.eptr r n i o) => some ((r, n), (i, o)) | _ => none
def asA : Option V → Option (List V) | some (.agg cs) => some cs | _ => none
def asT : Option V → Option (List V) | some (.tup cs) => some cs | _ => none
def asV : Option Blk → Option (Nat × List V) | some (.var T cs) => some (T, cs) | _ => none
theorem asI_eq {o : Option V} {k : IntKind} {p : Int} (h : asI o = some (k, p)) : o = some (.d (.int k p)) := by unfold asI at h; split at h <;> simp_all
theorem asB_eq {o : Option V} {b : Bool} (h : asB o = some b) : o = some (.d (.bool b)) := by unfold asB at h; split at h <;> simp_all
theorem asP_eq {o : Option V} {r f : Nat} (h : asP o = some (r, f)) : o = some (.ptr r f) := by unfold asP at h; split at h <;> simp_all
theorem asF_eq {o : Option V} {r : List D} {f : Nat} (h : asF o = some (r, f)) : o = some (.fp r f) := by unfold asF at h; split at h <;> simp_all
theorem asE_eq {o : Option V} {r n i f : Nat} (h : asE o = some ((r, n), (i, f))) : o = some (.eptr r n i f) := by unfold asE at h; split at h <;> simp_all
theorem asA_eq {o : Option V} {r : List V} (h : asA o = some r) : o = some (.agg r) := by unfold asA at h; split at h <;> simp_all
theorem asT_eq {o : Option V} {r : List V} (h : asT o = some r) : o = some (.tup r) := by unfold asT at h; split at h <;> simp_all
theorem asV_eq {o : Option Blk} {T : Nat} {r : List V} (h : asV o = some (T, r)) : o = some (.var T r) := by unfold asV at h; split at h <;> simp_all
def quR : BinOp → IntKind → Int → Int → Option Int
 | .quo, k, p, q => match decide (q = 0) with | false => some (k.wrap (p.tdiv q)) | true => none
 | .rem, k, p, q => match decide (q = 0) with | false => some (p.tmod q) | true => none
 | .and, k, p, q => biR .and k p q
 | .or, k, p, q => biR .or k p q
 | .xor, k, p, q => biR .xor k p q
 | _, _, _, _ => none
def binC (op : BinOp) (k : IntKind) (p q : Int) : Option D :=
 match arR op p q with
 | some r => some (.int k (k.wrap r))
 | none => match cmR op p q with
  | some b => some (.bool b)
  | none => match quR op k p q with
   | some r => some (.int k r)
   | none => none
theorem binC_ok {op : BinOp} {x y : Opd} {k : IntKind} {p q : Int} {d : D} {fr : Fr} (h : binC op k p q = some d) : LStp P G nt (.bin op x y) [(x, .d (.int k p)), (y, .d (.int k q))] [] (.d d) ⟨[], []⟩ fr fr := by
 unfold binC at h
 split at h
 ·cases h; exact s_arW (by assumption)
 ·split at h
  ·cases h; exact s_cm (by assumption)
  ·split at h
   ·rename_i r hr
    cases h
    unfold quR at hr
    split at hr
    ·split at hr
     ·cases hr; exact s_quoW (by simpa using ‹decide (q = 0) = false›)
     ·cases hr
    ·split at hr
     ·cases hr; exact s_rem (by simpa using ‹decide (q = 0) = false›)
     ·cases hr
    ·exact s_bits hr
    ·exact s_bits hr
    ·exact s_bits hr
    ·cases hr
   ·cases h
def opC (G : Gl) (σ : St) : IOp → Option SR
 | .mv x => match ev G (look σ.env) x with
  | some u => some ⟨[(x, u)], [], u, ⟨[], []⟩⟩
  | none => none
 | .pick c a b => match asB (ev G (look σ.env) c) with
  | some true => match ev G (look σ.env) a with
   | some u => some ⟨[(c, .d (.bool true)), (a, u)], [], u, ⟨[], []⟩⟩
   | none => none
  | some false => match ev G (look σ.env) b with
   | some u => some ⟨[(c, .d (.bool false)), (b, u)], [], u, ⟨[], []⟩⟩
   | none => none
  | none => none
 | .bin op x y => match asI (ev G (look σ.env) x) with
  | some (k, p) => match asI (ev G (look σ.env) y) with
   | some (k', q) => match decide (k = k') with
    | true => match binC op k p q with
     | some d => some ⟨[(x, .d (.int k p)), (y, .d (.int k' q))], [], .d d, ⟨[], []⟩⟩
     | none => none
    | false => none
   | none => none
  | none => none
 | .beq neg x y => match asB (ev G (look σ.env) x) with
  | some p => match asB (ev G (look σ.env) y) with
   | some q => some ⟨[(x, .d (.bool p)), (y, .d (.bool q))], [], .d (.bool (neg != (p == q))), ⟨[], []⟩⟩
   | none => none
  | none => none
 | .un .not x => match asB (ev G (look σ.env) x) with
  | some p => some ⟨[(x, .d (.bool p))], [], .d (.bool (!p)), ⟨[], []⟩⟩
  | none => none
 | .un .neg x => match asI (ev G (look σ.env) x) with
  | some (k, p) => some ⟨[(x, .d (.int k p))], [], .d (.int k (k.wrap (-p))), ⟨[], []⟩⟩
  | none => none
 | .ext x i => match asT (ev G (look σ.env) x) with
  | some vs => match vs[i]? with
   | some u => some ⟨[(x, .tup vs)], [], u, ⟨[], []⟩⟩
   | none => none
  | none => none
 | .fld true off sz x => match asA (ev G (look σ.env) x) with
  | some cs => some ⟨[(x, .agg cs)], [], .agg ((cs.drop off).take sz), ⟨[], []⟩⟩
  | none => none
 | .fld false off sz x => match asA (ev G (look σ.env) x) with
  | some cs => match cs[off]? with
   | some u => some ⟨[(x, .agg cs)], [], u, ⟨[], []⟩⟩
   | none => none
  | none => none
 | .len x => match ev G (look σ.env) x with
  | some (.own r n) => some ⟨[(x, .own r n)], [], .d (.int .i64 n), ⟨[], []⟩⟩
  | some (.d .nilSl) => some ⟨[(x, .d .nilSl)], [], .d (.int .i64 0), ⟨[], []⟩⟩
  | some (.d (.sl es xs)) => some ⟨[(x, .d (.sl es xs))], [], .d (.int .i64 xs.length), ⟨[], []⟩⟩
  | _ => none
 | .lenS x => match ev G (look σ.env) x with
  | some (.d (.str s)) => some ⟨[(x, .d (.str s))], [], .d (.int .i64 s.size), ⟨[], []⟩⟩
  | _ => none
 | .mm mx xs => match evs G (look σ.env) xs with
  | some (.d (.int k x) :: vs) => match mmD k mx x vs with
   | some r => match Nat.beq xs.length (vs.length + 1) with
    | true => some ⟨xs.zip (.d (.int k x) :: vs), [], .d (.int k r), ⟨[], []⟩⟩
    | false => none
   | none => none
  | _ => none
 | .mkf f fs cs => match evs G (look σ.env) fs with
  | some us => match evs G (look σ.env) cs with
   | some vs => match Nat.beq fs.length us.length && Nat.beq cs.length vs.length with
    | true => some ⟨fs.zip us ++ cs.zip vs, [], .clo f us vs, ⟨[], []⟩⟩
    | false => none
   | none => none
  | none => none
 | .build z parts => match evs G (look σ.env) (opOf parts) with
  | some vs => match fillV (z.map .d) (plOf parts) vs with
   | some out => match Nat.beq (opOf parts).length vs.length with
    | true => some ⟨(opOf parts).zip vs, [], .agg out, ⟨[], []⟩⟩
    | false => none
   | none => none
  | none => none
 | .bsl T es n z parts => match evs G (look σ.env) (opOf parts) with
  | some vs => match fillV ((repD n z).map .d) (plOf parts) vs with
   | some out => match unV out with
    | some cs => match Nat.beq (opOf parts).length vs.length && (Nat.beq cs.length (n * es) && Nat.ble n maxLen) with
     | true => some ⟨(opOf parts).zip vs, [], .own σ.nx n, ⟨[(σ.nx, .row T es (rowsOf es n cs))], [σ.nx]⟩⟩
     | false => none
    | none => none
   | none => none
  | none => none
 | .box T x => match ev G (look σ.env) x with
  | some u => match cellsOf u with
   | some cs => some ⟨[(x, u)], [], .ptr σ.nx 0, ⟨[(σ.nx, .var T cs)], [σ.nx]⟩⟩
   | none => none
  | none => none
 | .alloc T z => some ⟨[], [], .ptr σ.nx 0, ⟨[(σ.nx, .var T (z.map .d))], [σ.nx]⟩⟩
 | .load ag sz x => match asP (ev G (look σ.env) x) with
  | some (r, off) => match asV (look σ.heap r) with
   | some (T, cs) => match ag with
    | true => match Nat.ble (off + sz) cs.length with
     | true => some ⟨[(x, .ptr r off)], [(r, .var T cs)], .agg (partL cs off sz), ⟨[], []⟩⟩
     | false => none
    | false => match cs[off]? with
     | some u => some ⟨[(x, .ptr r off)], [(r, .var T cs)], u, ⟨[], []⟩⟩
     | none => none
   | none => none
  | none => match asF (ev G (look σ.env) x) with
   | some (row, off) => match ag with
    | true => match Nat.ble (off + sz) row.length with
     | true => some ⟨[(x, .fp row off)], [], .agg ((partL row off sz).map .d), ⟨[], []⟩⟩
     | false => none
    | false => match row[off]? with
     | some u => some ⟨[(x, .fp row off)], [], .d u, ⟨[], []⟩⟩
     | none => none
   | none => none
 | .store sz x y => match asP (ev G (look σ.env) x) with
  | some (r, off) => match asV (look σ.heap r) with
   | some (T, cs) => match ev G (look σ.env) y with
    | some u => match cellsOf u with
     | some vs => match Nat.beq vs.length sz && Nat.ble (off + sz) cs.length with
      | true => some ⟨[(x, .ptr r off), (y, u)], [(r, .var T cs)], .undef, ⟨[(r, .var T (spl cs off vs))], []⟩⟩
      | false => none
     | none => none
    | none => none
   | none => none
  | none => none
 | .faddr o x => match asP (ev G (look σ.env) x) with
  | some (r, off) => match asV (look σ.heap r) with
   | some (T, cs) => some ⟨[(x, .ptr r off)], [(r, .var T cs)], .ptr r (off + o), ⟨[], []⟩⟩
   | none => none
  | none => match asF (ev G (look σ.env) x) with
   | some (row, off) => some ⟨[(x, .fp row off)], [], .fp row (off + o), ⟨[], []⟩⟩
   | none => match asE (ev G (look σ.env) x) with
    | some ((r, n), (i, off)) => some ⟨[(x, .eptr r n i off)], [], .eptr r n i (off + o), ⟨[], []⟩⟩
    | none => none
 | .iaA n es x i => match asI (ev G (look σ.env) i) with
  | some (k, iz) => match decide (0 ≤ iz) && Nat.blt iz.toNat n with
   | true => match asP (ev G (look σ.env) x) with
    | some (r, off) => match asV (look σ.heap r) with
     | some (T, cs) => some ⟨[(x, .ptr r off), (i, .d (.int k iz))], [(r, .var T cs)], .ptr r (off + iz.toNat * es), ⟨[], []⟩⟩
     | none => none
    | none => match asF (ev G (look σ.env) x) with
     | some (row, off) => some ⟨[(x, .fp row off), (i, .d (.int k iz))], [], .fp row (off + iz.toNat * es), ⟨[], []⟩⟩
     | none => none
   | false => none
  | none => none
 | .mkmap => some ⟨[], [], .map σ.nx, ⟨[(σ.nx, .mp [])], [σ.nx]⟩⟩
 | _ => none
structure OpOk (P : Program) (G : Gl) (nt : Nat) (σ : St) (io : IOp) (s : SR) : Prop where
 h : ∀ fr, LStp P G nt io s.xs s.rs s.v s.e fr fr
 e : Evs G (look σ.env) s.xs
 r : Rds (look σ.heap) s.rs
 n : s.e.nw = List.range' σ.nx s.e.nw.length
theorem opC_ok {σ : St} {io : IOp} {r : SR} (h : opC G σ io = some r) : OpOk P G nt σ io r := by
 cases io <;> simp only [opC] at h <;> try (cases h; done)
 case mv => split at h <;> cases h; exact ⟨fun _ => s_mv, ⟨by assumption, trivial⟩, trivial, rfl⟩
 case pick =>
  split at h
  ·split at h <;> cases h; exact ⟨fun _ => s_pickT, ⟨asB_eq (by assumption), by assumption, trivial⟩, trivial, rfl⟩
  ·split at h <;> cases h; exact ⟨fun _ => s_pickF, ⟨asB_eq (by assumption), by assumption, trivial⟩, trivial, rfl⟩
  ·cases h
 case bin =>
  split at h <;> try (cases h; done)
  split at h <;> try (cases h; done)
  split at h <;> try (cases h; done)
  split at h <;> cases h
  have e := of_decide_eq_true (by assumption)
  subst e
  exact ⟨fun _ => binC_ok (by assumption), ⟨asI_eq (by assumption), asI_eq (by assumption), trivial⟩, trivial, rfl⟩
 case beq =>
  split at h <;> try (cases h; done)
  split at h <;> cases h
  exact ⟨fun _ => s_beq, ⟨asB_eq (by assumption), asB_eq (by assumption), trivial⟩, trivial, rfl⟩
 case un op x =>
  cases op <;> simp only [opC] at h <;> try (cases h; done)
  all_goals split at h <;> try (cases h; done)
  all_goals cases h
  ·exact ⟨fun _ => s_negW, ⟨asI_eq (by assumption), trivial⟩, trivial, rfl⟩
  ·exact ⟨fun _ => s_not, ⟨asB_eq (by assumption), trivial⟩, trivial, rfl⟩
 case ext =>
  split at h <;> try (cases h; done)
  split at h <;> cases h
  exact ⟨fun _ => s_ext (by assumption), ⟨asT_eq (by assumption), trivial⟩, trivial, rfl⟩
 case fld ag off sz x =>
  cases ag <;> simp only [opC] at h
  ·split at h <;> try (cases h; done)
   split at h <;> cases h
   exact ⟨fun _ => s_fldC (by assumption), ⟨asA_eq (by assumption), trivial⟩, trivial, rfl⟩
  ·split at h <;> cases h
   exact ⟨fun _ => s_fldA, ⟨asA_eq (by assumption), trivial⟩, trivial, rfl⟩
 case len =>
  split at h <;> cases h
  ·exact ⟨fun _ => s_lenO, ⟨by assumption, trivial⟩, trivial, rfl⟩
  ·exact ⟨fun _ => s_lenN, ⟨by assumption, trivial⟩, trivial, rfl⟩
  ·exact ⟨fun _ => s_lenD, ⟨by assumption, trivial⟩, trivial, rfl⟩
 case lenS =>
  split at h <;> cases h
  exact ⟨fun _ => s_lenS, ⟨by assumption, trivial⟩, trivial, rfl⟩
 case mm =>
  split at h <;> try (cases h; done)
  split at h <;> try (cases h; done)
  split at h <;> cases h
  exact ⟨fun _ => s_mm (by assumption) (Nat.eq_of_beq_eq_true (by assumption)), Evs.zip (by assumption), trivial, rfl⟩
 case mkf =>
  split at h <;> try (cases h; done)
  split at h <;> try (cases h; done)
  split at h <;> cases h
  rename_i hb
  simp only [Bool.and_eq_true] at hb
  exact ⟨fun _ => s_mkf (Nat.eq_of_beq_eq_true hb.1) (Nat.eq_of_beq_eq_true hb.2), Evs.appd (Evs.zip (by assumption)) (Evs.zip (by assumption)), trivial, rfl⟩
 case build =>
  split at h <;> try (cases h; done)
  split at h <;> try (cases h; done)
  split at h <;> cases h
  exact ⟨fun _ => s_build (by assumption) (Nat.eq_of_beq_eq_true (by assumption)), Evs.zip (by assumption), trivial, rfl⟩
 case bsl =>
  split at h <;> try (cases h; done)
  split at h <;> try (cases h; done)
  split at h <;> try (cases h; done)
  split at h <;> cases h
  rename_i hb
  simp only [Bool.and_eq_true] at hb
  exact ⟨fun _ => s_bsl (by assumption) (by assumption) (Nat.eq_of_beq_eq_true hb.1) (Nat.eq_of_beq_eq_true hb.2.1) (Nat.le_of_ble_eq_true hb.2.2), Evs.zip (by assumption), trivial, rfl⟩
 case box =>
  split at h <;> try (cases h; done)
  split at h <;> cases h
  exact ⟨fun _ => s_box (by assumption), ⟨by assumption, trivial⟩, trivial, rfl⟩
 case alloc => cases h; exact ⟨fun _ => s_alloc, trivial, trivial, rfl⟩
 case load ag sz x =>
  split at h
  ·split at h <;> try (cases h; done)
   split at h
   ·split at h <;> cases h
    exact ⟨fun _ => s_loadA (Nat.le_of_ble_eq_true (by assumption)), ⟨asP_eq (by assumption), trivial⟩, ⟨asV_eq (by assumption), trivial⟩, rfl⟩
   ·split at h <;> cases h
    exact ⟨fun _ => s_loadV (by assumption), ⟨asP_eq (by assumption), trivial⟩, ⟨asV_eq (by assumption), trivial⟩, rfl⟩
  ·split at h <;> try (cases h; done)
   split at h
   ·split at h <;> cases h
    exact ⟨fun _ => s_loadFA (Nat.le_of_ble_eq_true (by assumption)), ⟨asF_eq (by assumption), trivial⟩, trivial, rfl⟩
   ·split at h <;> cases h
    exact ⟨fun _ => s_loadF (by assumption), ⟨asF_eq (by assumption), trivial⟩, trivial, rfl⟩
 case store =>
  split at h <;> try (cases h; done)
  split at h <;> try (cases h; done)
  split at h <;> try (cases h; done)
  split at h <;> try (cases h; done)
  split at h <;> cases h
  rename_i hb
  simp only [Bool.and_eq_true] at hb
  exact ⟨fun _ => s_store (by assumption) (Nat.eq_of_beq_eq_true hb.1) (Nat.le_of_ble_eq_true hb.2), ⟨asP_eq (by assumption), by assumption, trivial⟩, ⟨asV_eq (by assumption), trivial⟩, rfl⟩
 case faddr =>
  split at h
  ·split at h <;> cases h
   exact ⟨fun _ => s_faddrV, ⟨asP_eq (by assumption), trivial⟩, ⟨asV_eq (by assumption), trivial⟩, rfl⟩
  ·split at h
   ·cases h; exact ⟨fun _ => s_faddrF, ⟨asF_eq (by assumption), trivial⟩, trivial, rfl⟩
   ·split at h <;> cases h
    exact ⟨fun _ => s_faddrE, ⟨asE_eq (by assumption), trivial⟩, trivial, rfl⟩
 case iaA =>
  split at h <;> try (cases h; done)
  split at h <;> try (cases h; done)
  rename_i hb
  simp only [Bool.and_eq_true, decide_eq_true_eq] at hb
  split at h
  ·split at h <;> cases h
   exact ⟨fun _ => s_iaV hb.1 (Nat.le_of_ble_eq_true hb.2), ⟨asP_eq (by assumption), asI_eq (by assumption), trivial⟩, ⟨asV_eq (by assumption), trivial⟩, rfl⟩
  ·split at h <;> cases h
   exact ⟨fun _ => s_iaF hb.1 (Nat.le_of_ble_eq_true hb.2), ⟨asF_eq (by assumption), asI_eq (by assumption), trivial⟩, trivial, rfl⟩
 case mkmap => cases h; exact ⟨fun _ => s_mkmap, trivial, trivial, rfl⟩
def gdC (σ : St) : Option (Nat × Bool) → Option Bool
 | none => some true
 | some (t, b) => match look σ.env t with
  | some (.d (.bool true)) => some b
  | some (.d (.bool false)) => some (!b)
  | some .undef => some false
  | _ => none
theorem gdC_t {σ : St} {g : Option (Nat × Bool)} (h : gdC σ g = some true) : Wants σ g := by
 cases g with
 | none => trivial
 | some p =>
  obtain ⟨t, b⟩ := p
  simp only [gdC] at h
  split at h <;> simp at h
  ·subst h; assumption
  ·subst h; assumption
theorem gdC_f {σ : St} {g : Option (Nat × Bool)} (h : gdC σ g = some false) : Skips σ g := by
 cases g with
 | none => cases h
 | some p =>
  obtain ⟨t, b⟩ := p
  simp only [gdC] at h
  split at h <;> simp at h
  ·subst h; exact .inl (by assumption)
  ·subst h; exact .inl (by assumption)
  ·exact .inr (by assumption)
def runC (G : Gl) : List IOper → St → List SD → Option (St × List SD)
 | [], σ, sds => some (σ, sds)
 | o :: l, σ, sds => match gdC σ o.guard with
  | some true => match opC G σ o.op with
   | some r => runC G l (σ.app o.dst r.v r.e σ.fr) (sds ++ [sdOf o.guard r.xs r.rs r.e])
   | none => none
  | some false => runC G l (σ.put o.dst .undef) (sds ++ [sdSkip o.guard])
  | none => none
theorem runC_ok {K : St → List SD → Prop} {rest : List IOper} : ∀ {ops : List IOper} {σ σ' : St} {sds sds' : List SD}, runC G ops σ sds = some (σ', sds') → RunC P G nt K rest σ' sds' → RunC P G nt K (ops ++ rest) σ sds
 | [], σ, σ', sds, sds', h, k => by simp only [runC] at h; cases h; exact k
 | o :: l, σ, σ', sds, sds', h, k => by
  simp only [runC] at h
  split at h
  ·split at h
   ·obtain ⟨h1, h2, h3, h4⟩ := opC_ok (P := P) (nt := nt) (by assumption)
    exact .step (h1 _) (gdC_t (by assumption)) h2 h3 h4 (runC_ok h k)
   ·cases h
  ·rename_i hg
   exact .skip (gdC_f hg) (runC_ok h k)
  ·cases h
def selE (l : List (Nat × V)) : List Nat → Option (List (Nat × V))
 | [] => some []
 | t :: ts => match look l t with
  | some v => match selE l ts with | some r => some ((t, v) :: r) | none => none
  | none => none
def selH (l : List (Nat × Blk)) : List Nat → Option (List (Nat × Blk))
 | [] => some []
 | t :: ts => match look l t with
  | some v => match selH l ts with | some r => some ((t, v) :: r) | none => none
  | none => none
theorem selE_ok {l : List (Nat × V)} : ∀ {ts : List Nat} {r : List (Nat × V)}, selE l ts = some r → ∀ t v, look r t = some v → look l t = some v
 | [], r, h, t, v, hv => by simp only [selE] at h; cases h; cases hv
 | u :: ts, r, h, t, v, hv => by
  simp only [selE] at h
  split at h <;> try (cases h; done)
  split at h <;> cases h
  rw [look_cons] at hv
  split at hv
  ·rename_i e; subst e; cases hv; assumption
  ·exact selE_ok (by assumption) t v hv
theorem selH_ok {l : List (Nat × Blk)} : ∀ {ts : List Nat} {r : List (Nat × Blk)}, selH l ts = some r → ∀ t v, look r t = some v → look l t = some v
 | [], r, h, t, v, hv => by simp only [selH] at h; cases h; cases hv
 | u :: ts, r, h, t, v, hv => by
  simp only [selH] at h
  split at h <;> try (cases h; done)
  split at h <;> cases h
  rw [look_cons] at hv
  split at hv
  ·rename_i e; subst e; cases hv; assumption
  ·exact selH_ok (by assumption) t v hv
def okE (n : Nat) (dom : Nat → Bool) : List (Nat × V) → Bool
 | [] => true
 | (_, v) :: l => v.okR n dom && okE n dom l
def okH (n : Nat) (dom : Nat → Bool) : List (Nat × Blk) → Bool
 | [] => true
 | (r, b) :: l => Nat.blt r n && (b.okR n dom && okH n dom l)
theorem okE_ok {n : Nat} {dom : Nat → Bool} : ∀ {l : List (Nat × V)}, okE n dom l = true → ∀ t v, look l t = some v → v.okR n dom = true
 | [], _, t, v, h => by cases h
 | (u, x) :: l, h, t, v, hv => by
  simp only [okE, Bool.and_eq_true] at h
  rw [look_cons] at hv
  split at hv
  ·cases hv; exact h.1
  ·exact okE_ok h.2 t v hv
theorem okH_ok {n : Nat} {dom : Nat → Bool} : ∀ {l : List (Nat × Blk)}, okH n dom l = true → ∀ t v, look l t = some v → t < n ∧ v.okR n dom = true
 | [], _, t, v, h => by cases h
 | (u, x) :: l, h, t, v, hv => by
  simp only [okH, Bool.and_eq_true] at h
  rw [look_cons] at hv
  split at hv
  ·rename_i e; subst e; cases hv; exact ⟨Nat.le_of_ble_eq_true h.1, h.2.1⟩
  ·exact okH_ok h.2.2 t v hv
def lentOk (base : Nat) (h : List (Nat × Blk)) : List (Nat × Blk) → Bool
 | [] => true
 | (r, _) :: l => (Nat.ble base r || (look h r).isSome) && lentOk base h l
theorem lentOk_ok {base : Nat} {h : List (Nat × Blk)} : ∀ {l : List (Nat × Blk)}, lentOk base h l = true → ∀ r b, r < base → look l r = some b → (look h r).isSome = true
 | [], _, r, b, _, hb => by cases hb
 | (u, x) :: l, hl, r, b, hr, hb => by
  simp only [lentOk, Bool.and_eq_true, Bool.or_eq_true] at hl
  rw [look_cons] at hb
  split at hb
  ·rename_i e; subst e
   rcases hl.1 with h1 | h1
   ·have := Nat.le_of_ble_eq_true h1; omega
   ·exact h1
  ·exact lentOk_ok hl.2 r b hr hb
def dfsOk (h : List (Nat × Blk)) : List Nat → Bool
 | [] => true
 | r :: l => (match look h r with | some .dm => true | _ => false) && dfsOk h l
theorem dfsOk_ok {h : List (Nat × Blk)} : ∀ {l : List Nat}, dfsOk h l = true → ∀ r ∈ l, look h r = some .dm
 | [], _, r, hr => by cases hr
 | u :: l, hl, r, hr => by
  simp only [dfsOk, Bool.and_eq_true] at hl
  rcases List.mem_cons.1 hr with rfl | hr
  ·have := hl.1; split at this <;> simp_all
  ·exact dfsOk_ok hl.2 r hr
def keepS (σ : St) (ts rs : List Nat) (nx : Nat) : Option St :=
 match selE σ.env ts with
 | some e => match selH σ.heap rs with
  | some h => match Nat.ble nx σ.nx && (Nat.ble σ.base nx && (okE nx (fun r => (look h r).isSome) e && (okH nx (fun r => (look h r).isSome) h && (lentOk σ.base h σ.heap && dfsOk h σ.dfs)))) with
   | true => some ⟨e, h, nx, σ.fr, σ.dfs, σ.base⟩
   | false => none
  | none => none
 | none => none
theorem keepS_ok {σ σ' : St} {ts rs : List Nat} {nx : Nat} (h : keepS σ ts rs nx = some σ') : σ'.Sub σ := by
 unfold keepS at h
 split at h <;> try (cases h; done)
 split at h <;> try (cases h; done)
 split at h <;> cases h
 rename_i hb
 simp only [Bool.and_eq_true] at hb
 obtain ⟨h1, h2, h3, h4, h5, h6⟩ := hb
 refine ⟨Nat.le_of_ble_eq_true h1, fun t v hv => ⟨selE_ok (by assumption) t v hv, okE_ok h3 t v hv⟩, fun r b hr => ⟨selH_ok (by assumption) r b hr, okH_ok h4 r b hr⟩, rfl, rfl, fun r hr => dfsOk_ok h6 r hr, rfl, Nat.le_of_ble_eq_true h2, fun r b hr hb => ?_⟩
 have h7 := lentOk_ok h5 r b hr hb
 obtain ⟨b', h8⟩ := Option.isSome_iff_exists.1 h7
 have h9 := selH_ok (l := σ.heap) (by assumption) r b' h8
 rw [hb] at h9; cases h9; exact h8
end
end Go.Abs
namespace Go.Abs
structure Ge (σa σ : St) : Prop where
 env : ∀ t v, look σ.env t = some v → look σa.env t = some v
 heap : look σa.heap = look σ.heap
 nx : σa.nx = σ.nx
 fr : σa.fr = σ.fr
 dfs : σa.dfs = σ.dfs
 base : σa.base = σ.base
theorem Ge.refl (σ : St) : Ge σ σ := ⟨fun _ _ h => h, rfl, rfl, rfl, rfl, rfl⟩
theorem Ge.trans {a b c : St} (h : Ge a b) (k : Ge b c) : Ge a c :=
 ⟨fun t v hv => h.env t v (k.env t v hv), h.heap.trans k.heap, h.nx.trans k.nx, h.fr.trans k.fr, h.dfs.trans k.dfs, h.base.trans k.base⟩
section
variable {P : Program} {nt : Nat} {G : Gl} {F : Fence}
theorem Ge.ev {σa σ : St} (h : Ge σa σ) {x : Opd} {v : V} (hv : ev G (look σ.env) x = some v) : ev G (look σa.env) x = some v := by
 cases x with
 | tmp t => exact h.env t v hv
 | cst u => exact hv
 | glob g => exact hv
theorem Ge.evs {σa σ : St} (h : Ge σa σ) : ∀ {xs : List (Opd × V)}, Evs G (look σ.env) xs → Evs G (look σa.env) xs
 | [], _ => trivial
 | (x, v) :: l, ⟨h1, h2⟩ => ⟨h.ev h1, h.evs h2⟩
theorem look_cons_ge {a b : List (Nat × V)} (h : ∀ t v, look b t = some v → look a t = some v) (k : Nat) (x : V) : ∀ t v, look ((k, x) :: b) t = some v → look ((k, x) :: a) t = some v := fun t v hv => by
 rw [look_cons] at hv ⊢
 split at hv
 ·rename_i e; rw [if_pos e]; exact hv
 ·rename_i e; rw [if_neg e]; exact h t v hv
theorem Ge.app {σa σ : St} (h : Ge σa σ) (d : Option Nat) (v : V) (e : Eff) (fr : Fr) : Ge (σa.app d v e fr) (σ.app d v e fr) := by
 have hh : look (e.st ++ σa.heap) = look (e.st ++ σ.heap) := by rw [look_app, look_app, h.heap]
 cases d with
 | none => exact ⟨h.env, hh, by simp only [St.app, h.nx], rfl, h.dfs, h.base⟩
 | some t => exact ⟨look_cons_ge h.env t v, hh, by simp only [St.app, h.nx], rfl, h.dfs, h.base⟩
theorem Ge.put {σa σ : St} (h : Ge σa σ) (d : Option Nat) (v : V) : Ge (σa.put d v) (σ.put d v) := by
 cases d with
 | none => exact h
 | some t => exact ⟨look_cons_ge h.env t v, h.heap, h.nx, h.fr, h.dfs, h.base⟩
theorem Ge.pt {σa σ : St} (h : Ge σa σ) (t : Nat) (v : V) : Ge (σa.pt t v) (σ.pt t v) := ⟨look_cons_ge h.env t v, h.heap, h.nx, h.fr, h.dfs, h.base⟩
theorem Ge.wants {σa σ : St} (h : Ge σa σ) {g : Option (Nat × Bool)} (hg : Wants σ g) : Wants σa g := by
 cases g with
 | none => trivial
 | some p => obtain ⟨t, b⟩ := p; exact h.env _ _ hg
theorem Ge.skips {σa σ : St} (h : Ge σa σ) {g : Option (Nat × Bool)} (hg : Skips σ g) : Skips σa g := by
 cases g with
 | none => exact hg
 | some p => obtain ⟨t, b⟩ := p; exact Or.imp (h.env _ _) (h.env _ _) hg
theorem RelS.ge {σa σ : St} (h : Ge σa σ) {c : Cx} {a : Act} {w : World} (hR : RelS G nt c σa a w) : RelS G nt c σ a w := by
 obtain ⟨⟨h1, h2, h3⟩, h4, h5⟩ := hR
 refine ⟨⟨h1, fun t v hv => ?_, ?_⟩, ?_, ?_⟩
 ·obtain ⟨cv, e1, e2⟩ := h2 t v (h.env t v hv)
  exact ⟨cv, e1, by rw [← h.heap, ← h.nx]; exact e2⟩
 ·rw [← h.heap, ← h.nx, ← h.fr]; exact h3
 ·rw [← h.heap, ← h.dfs]; exact h4
 ·rw [← h.base, ← h.nx]; exact h5
theorem Went.ge {σa σ σ0 : St} (h : Ge σa σ) {c0 c : Cx} {w0 w : World} (hW : Went c0 σ0 w0 c σa w) : Went c0 σ0 w0 c σ w :=
 ⟨by rw [← h.heap]; exact hW.x, by rw [← h.heap]; exact hW.b, h.base.symm.trans hW.base⟩
def Kc (K : St → List SD → Prop) : St → List SD → Prop := fun σ s => ∃ σx, Ge σ σx ∧ K σx s
theorem RunC.ge {K : St → List SD → Prop} {rest : List IOper} {σ : St} {s : List SD} (h : RunC P G nt (Kc K) rest σ s) : ∀ {σa : St}, Ge σa σ → RunC P G nt (Kc K) rest σa s := by
 induction h with
 | nil h => intro σa hg; obtain ⟨σx, h1, h2⟩ := h; exact .nil ⟨σx, hg.trans h1, h2⟩
 | step h hg hE hH hn k ih =>
  intro σa ha
  refine .step (by rw [ha.fr]; exact h) (ha.wants hg) (ha.evs hE) (by rw [ha.heap]; exact hH) (by rw [ha.nx]; exact hn) ?_
  rw [ha.fr]
  exact ih (ha.app _ _ _ _)
 | stepF h hg hE hH hn k ih =>
  intro σa ha
  exact .stepF (by rw [ha.fr]; exact h) (ha.wants hg) (ha.evs hE) (by rw [ha.heap]; exact hH) (by rw [ha.nx]; exact hn) (ih (ha.app _ _ _ _))
 | skip hg k ih => intro σa ha; exact .skip (ha.skips hg) (ih (ha.put _ _))
 | @know σ sds rest t v h k ih =>
  intro σa ha
  exact .know (ha.env _ _ h) (ih (ha.pt t v))
def pureOp : IOp → Bool
 | .box _ _ => false
 | .alloc _ _ => false
 | .store _ _ _ => false
 | .bsl _ _ _ _ _ => false
 | .mkmap => false
 | _ => true
def purOps : List IOper → Bool
 | [] => true
 | o :: l => pureOp o.op && purOps l
theorem opC_pure {σ : St} {io : IOp} {r : SR} (h : opC G σ io = some r) (hp : pureOp io = true) : r.e = ⟨[], []⟩ := by
 cases io <;> simp only [pureOp] at hp <;> try (cases hp; done)
 all_goals simp only [opC] at h
 all_goals try (cases h; done)
 case un op x =>
  cases op <;> simp only [opC] at h <;> try (cases h; done)
  all_goals (repeat' split at h) <;> cases h <;> rfl
 case fld ag off sz x => cases ag <;> simp only [opC] at h <;> (repeat' split at h) <;> cases h <;> rfl
 all_goals (repeat' split at h) <;> cases h <;> rfl
def grpN (t : Nat) : List IOper → Nat → Option Nat
 | [], _ => none
 | o :: l, n => match o.op with
  | .pick (.tmp t') _ _ => bif Nat.beq t t' then some (n + 1) else grpN t l (n + 1)
  | _ => grpN t l (n + 1)
def comb (b : Bool) (p : Bool) : Option V → Option V → Option V
 | vT, vF => match b with
  | true => match asB vF with
   | some false => match asB vT with | some x => some (.d (.bool (p && x))) | none => none
   | _ => none
  | false => match asB vT with
   | some true => match asB vF with | some y => some (.d (.bool (p || y))) | none => none
   | _ => none
theorem comb_T {b : Bool} {vT vF : Option V} {v : V} (h : comb b true vT vF = some v) : vT = some v := by
 cases b <;> simp only [comb] at h
 ·split at h <;> try (cases h; done)
  rename_i hx
  split at h <;> cases h
  rw [asB_eq hx]; simp
 ·split at h <;> try (cases h; done)
  split at h <;> cases h
  rename_i x hx; rw [asB_eq hx]; simp
theorem comb_F {b : Bool} {vT vF : Option V} {v : V} (h : comb b false vT vF = some v) : vF = some v := by
 cases b <;> simp only [comb] at h
 ·split at h <;> try (cases h; done)
  split at h <;> cases h
  rename_i y hy; rw [asB_eq hy]; simp
 ·split at h <;> try (cases h; done)
  rename_i hx
  split at h <;> cases h
  rw [asB_eq hx]; simp
structure SD.Le (a b : SD) : Prop where
 rd : ∀ x ∈ a.rd, x ∈ b.rd
 rs : ∀ x ∈ a.rs, x ∈ b.rs
 st : ∀ x ∈ a.st, x ∈ b.st
 nw : ∀ x ∈ a.nw, x ∈ b.nw
 fx : a.fx = true → b.fx = true
def SdsLe : List SD → List SD → Prop
 | [], [] => True
 | a :: as, b :: bs => a.Le b ∧ SdsLe as bs
 | _, _ => False
theorem SD.Le.refl (a : SD) : a.Le a := ⟨fun _ h => h, fun _ h => h, fun _ h => h, fun _ h => h, fun h => h⟩
theorem SdsLe.app : ∀ {a a' b b' : List SD}, SdsLe a a' → SdsLe b b' → SdsLe (a ++ b) (a' ++ b')
 | [], [], _, _, _, h => h
 | x :: xs, y :: ys, _, _, ⟨h1, h2⟩, h => ⟨h1, SdsLe.app h2 h⟩
 | [], _ :: _, _, _, h, _ => h.elim
 | _ :: _, [], _, _, h, _ => h.elim
def sdJ (a b : SD) : SD := ⟨a.rd ++ b.rd, a.rs ++ b.rs, a.st ++ b.st, a.nw ++ b.nw, a.fx || b.fx⟩
def joinS : List SD → List SD → List SD
 | a :: as, b :: bs => sdJ a b :: joinS as bs
 | _, _ => []
theorem joinS_len : ∀ {a b : List SD}, a.length = b.length → (joinS a b).length = a.length
 | [], [], _ => rfl
 | _ :: as, _ :: bs, h => by simp only [joinS, List.length_cons] at h ⊢; rw [joinS_len (by omega)]
 | [], _ :: _, h => by simp at h
 | _ :: _, [], h => by simp at h
theorem SdsLe.joinL : ∀ {s a b : List SD}, SdsLe s a → a.length = b.length → SdsLe s (joinS a b)
 | [], [], [], _, _ => trivial
 | _ :: _, _ :: _, _ :: _, ⟨h1, h2⟩, hl => ⟨⟨fun x h => List.mem_append.2 (.inl (h1.rd x h)), fun x h => List.mem_append.2 (.inl (h1.rs x h)), fun x h => List.mem_append.2 (.inl (h1.st x h)), fun x h => List.mem_append.2 (.inl (h1.nw x h)), fun h => by simp [sdJ, h1.fx h]⟩, SdsLe.joinL h2 (by simpa using hl)⟩
 | [], _ :: _, _, h, _ => h.elim
 | _ :: _, [], _, h, _ => h.elim
 | [], [], _ :: _, _, hl => by simp at hl
 | _ :: _, _ :: _, [], _, hl => by simp at hl
theorem SdsLe.joinR : ∀ {s a b : List SD}, SdsLe s b → a.length = b.length → SdsLe s (joinS a b)
 | [], [], [], _, _ => trivial
 | _ :: _, _ :: _, _ :: _, ⟨h1, h2⟩, hl => ⟨⟨fun x h => List.mem_append.2 (.inr (h1.rd x h)), fun x h => List.mem_append.2 (.inr (h1.rs x h)), fun x h => List.mem_append.2 (.inr (h1.st x h)), fun x h => List.mem_append.2 (.inr (h1.nw x h)), fun h => by simp [sdJ, h1.fx h]⟩, SdsLe.joinR h2 (by simpa using hl)⟩
 | [], _, _ :: _, h, _ => h.elim
 | _ :: _, _, [], h, _ => h.elim
 | [], _ :: _, [], _, hl => by simp at hl
 | _ :: _, [], _ :: _, _, hl => by simp at hl
theorem disj_of : ∀ {xs ys : List Nat}, (∀ x ∈ xs, x ∉ ys) → disj xs ys = true
 | [], _, _ => rfl
 | x :: xs, ys, h => by
  simp only [disj, Bool.and_eq_true, Bool.not_eq_true']
  refine ⟨?_, disj_of fun z hz => h z (List.mem_cons_of_mem _ hz)⟩
  cases hc : ys.contains x with
  | false => rfl
  | true => exact absurd (List.contains_iff_mem.1 hc) (h x (by simp))
theorem disj_mono {xs ys xs' ys' : List Nat} (h : disj xs ys = true) (hx : ∀ x ∈ xs', x ∈ xs) (hy : ∀ y ∈ ys', y ∈ ys) : disj xs' ys' = true := disj_of fun x h1 h2 => disj_ok h x (hx x h1) (hy x h2)
theorem okFrom_mono {i : Nat} {o : IOper} {s u : SD} (hs : s.Le u) : ∀ {os : List IOper} {ss us : List SD} {ps : List (List Nat)}, SdsLe ss us → okFrom i (ddOf o u) (ddOfs os us) ps = true → okFrom i (ddOf o s) (ddOfs os ss) ps = true
 | [], ss, us, ps, _, _ => by simp [ddOfs, okFrom]
 | o' :: os, [], us, ps, _, _ => by simp [ddOfs, okFrom]
 | o' :: os, s' :: ss, [], ps, h, _ => h.elim
 | o' :: os, s' :: ss, u' :: us, [], _, h => by simp [ddOfs, okFrom] at h
 | o' :: os, s' :: ss, u' :: us, p :: ps, ⟨h1, h2⟩, h => by
  simp only [ddOfs, okFrom, Bool.and_eq_true, Bool.or_eq_true, Bool.not_eq_true'] at h ⊢
  obtain ⟨⟨h3, h4⟩, h5⟩ := h
  refine ⟨⟨h3.imp id (fun ⟨⟨a1, a2⟩, a3⟩ => ⟨⟨?_, ?_⟩, ?_⟩), disj_mono h4 hs.nw h1.nw⟩, okFrom_mono hs h2 h5⟩
  ·cases hf : s.fx with
   | false => exact hf
   | true => have := hs.fx hf; simp only [ddOf] at a1; rw [this] at a1; cases a1
  ·cases hf : s'.fx with
   | false => exact hf
   | true => have := h1.fx hf; simp only [ddOf] at a2; rw [this] at a2; cases a2
  ·simp only [indep, ddOf, Bool.and_eq_true] at a3 ⊢
   obtain ⟨⟨⟨⟨⟨b1, b2⟩, b3⟩, b4⟩, b5⟩, b6⟩ := a3
   exact ⟨⟨⟨⟨⟨disj_mono b1 (fun _ h => h) h1.rd, disj_mono b2 (fun _ h => h) hs.rd⟩, b3⟩, disj_mono b4 hs.st h1.rs⟩, disj_mono b5 h1.st hs.rs⟩, disj_mono b6 hs.st h1.st⟩
theorem okAll_mono : ∀ {os : List IOper} {i : Nat} {ss us : List SD} {ps : List (List Nat)}, SdsLe ss us → okAll i (ddOfs os us) ps = true → okAll i (ddOfs os ss) ps = true
 | [], i, ss, us, ps, _, _ => by simp [ddOfs, okAll]
 | o :: os, i, [], us, ps, _, _ => by simp [ddOfs, okAll]
 | o :: os, i, s :: ss, [], ps, h, _ => h.elim
 | o :: os, i, s :: ss, u :: us, [], _, h => by simp [ddOfs, okAll] at h
 | o :: os, i, s :: ss, u :: us, p :: ps, ⟨h1, h2⟩, h => by
  simp only [ddOfs, okAll, Bool.and_eq_true] at h ⊢
  exact ⟨okFrom_mono h1 h2 h.1, okAll_mono h2 h.2⟩
theorem ddOfs_aft : ∀ {os : List IOper} {ss us : List SD}, SdsLe ss us → (ddOfs os ss).map (·.aft) = (ddOfs os us).map (·.aft)
 | [], ss, us, _ => by simp [ddOfs]
 | o :: os, [], [], _ => rfl
 | o :: os, s :: ss, u :: us, ⟨_, h⟩ => by simp only [ddOfs, List.map_cons, ddOfs_aft h]; rfl
 | o :: os, [], _ :: _, h => h.elim
 | o :: os, _ :: _, [], h => h.elim
theorem okD_mono {os : List IOper} {ss us : List SD} (h : SdsLe ss us) (hk : okD os us = true) : okD os ss = true := by
 simp only [okD, Bool.and_eq_true] at hk ⊢
 rw [ddOfs_aft h]
 exact ⟨hk.1, okAll_mono h hk.2⟩
def lastD : List IOper → Option Nat
 | [] => none
 | [o] => o.dst
 | _ :: l => lastD l
def unkC (σ : St) (us : List Nat) : Option (Nat × Bool) → Option (Nat × Bool)
 | none => none
 | some (t, b) => match hasN t us with
  | true => match look σ.env t with
   | some .undef => none
   | _ => some (t, b)
  | false => none
def rmN (t : Nat) (us : List Nat) : List Nat := us.filter (fun x => !(Nat.beq x t))
def runW (G : Gl) : Nat → List Nat → List IOper → St → Option (St × List SD)
 | 0, _, _, _ => none
 | _ + 1, _, [], σ => some (σ, [])
 | f + 1, us, o :: l, σ => match unkC σ us o.guard with
  | none => match gdC σ o.guard with
   | some true => match opC G σ o.op with
    | some r => match runW G f us l (σ.app o.dst r.v r.e σ.fr) with
     | some (σ', L) => some (σ', sdOf o.guard r.xs r.rs r.e :: L)
     | none => none
    | none => none
   | some false => match runW G f us l (σ.put o.dst .undef) with
    | some (σ', L) => some (σ', sdSkip o.guard :: L)
    | none => none
   | none => none
  | some (t, b) => match asB (look σ.env t) with
    | none => none
    | some p => match grpN t (o :: l) 0 with
     | none => none
     | some n => match lastD ((o :: l).take n) with
      | none => none
      | some t0 => match purOps ((o :: l).take n) with
       | false => none
       | true => match runW G f (rmN t us) ((o :: l).take n) (σ.pt t (.d (.bool true))) with
        | none => none
        | some (σ1, L1) => match runW G f (rmN t us) ((o :: l).take n) (σ.pt t (.d (.bool false))) with
         | none => none
         | some (σ2, L2) => match comb b p (look σ1.env t0) (look σ2.env t0) with
          | none => none
          | some v0 => match runW G f us ((o :: l).drop n) { env := (t0, v0) :: dropE (dsts ((o :: l).take n)) σ.env, heap := σ.heap, nx := σ.nx, fr := σ.fr, dfs := σ.dfs, base := σ.base } with
           | none => none
           | some (σ', L) => some (σ', joinS L1 L2 ++ L)
structure Keeps (ops : List IOper) (σ σ' : St) : Prop where
 env : ∀ t, (dsts ops).contains t = false → look σ'.env t = look σ.env t
 fr : σ'.fr = σ.fr
 dfs : σ'.dfs = σ.dfs
 base : σ'.base = σ.base
 heap : purOps ops = true → look σ'.heap = look σ.heap ∧ σ'.nx = σ.nx
theorem dsts_cons {o : IOper} {l : List IOper} {t : Nat} (h : (dsts (o :: l)).contains t = false) : (dsts l).contains t = false ∧ o.dst ≠ some t := by
 simp only [dsts] at h
 split at h
 ·rename_i u hu
  simp only [List.contains_cons, Bool.or_eq_false_iff] at h
  refine ⟨h.2, fun e => ?_⟩
  rw [hu] at e; cases e
  simp at h
 ·rename_i hu
  exact ⟨h, by rw [hu]; simp⟩
theorem dsts_app : ∀ (l m : List IOper), dsts (l ++ m) = dsts l ++ dsts m
 | [], m => rfl
 | o :: l, m => by
  simp only [List.cons_append, dsts]
  split <;> simp [dsts_app l m]
theorem purOps_app : ∀ (l m : List IOper), purOps (l ++ m) = (purOps l && purOps m)
 | [], m => rfl
 | o :: l, m => by simp only [List.cons_append, purOps, purOps_app l m, Bool.and_assoc]
theorem app_env {σ : St} {d : Option Nat} {v : V} {e : Eff} {fr : Fr} {t : Nat} (h : d ≠ some t) : look (σ.app d v e fr).env t = look σ.env t := by
 cases d with
 | none => rfl
 | some u => simp only [St.app]; rw [look_cons, if_neg (fun e => h (by rw [e]))]
theorem put_env {σ : St} {d : Option Nat} {v : V} {t : Nat} (h : d ≠ some t) : look (σ.put d v).env t = look σ.env t := by
 cases d with
 | none => rfl
 | some u => simp only [St.put]; rw [look_cons, if_neg (fun e => h (by rw [e]))]
theorem app_dfs {σ : St} {d : Option Nat} {v : V} {e : Eff} {fr : Fr} : (σ.app d v e fr).dfs = σ.dfs ∧ (σ.app d v e fr).base = σ.base ∧ (σ.app d v e fr).fr = fr := by cases d <;> exact ⟨rfl, rfl, rfl⟩
theorem put_dfs {σ : St} {d : Option Nat} {v : V} : (σ.put d v).dfs = σ.dfs ∧ (σ.put d v).base = σ.base ∧ (σ.put d v).fr = σ.fr ∧ (σ.put d v).heap = σ.heap ∧ (σ.put d v).nx = σ.nx := by cases d <;> exact ⟨rfl, rfl, rfl, rfl, rfl⟩
theorem app_pure {σ : St} {d : Option Nat} {v : V} {fr : Fr} : (σ.app d v ⟨[], []⟩ fr).heap = σ.heap ∧ (σ.app d v ⟨[], []⟩ fr).nx = σ.nx := by cases d <;> exact ⟨rfl, rfl⟩
theorem look_dropE' (ds : List Nat) : ∀ (l : List (Nat × V)) (t : Nat), ds.contains t = false → look (dropE ds l) t = look l t
 | [], t, _ => rfl
 | (u, x) :: l, t, h => by
  simp only [dropE]
  cases hc : ds.contains u with
  | true =>
   simp only [cond_true]
   rw [look_cons, if_neg (fun e => by subst e; rw [h] at hc; cases hc)]
   exact look_dropE' ds l t h
  | false =>
   simp only [cond_false]
   rw [look_cons, look_cons]
   split
   ·rfl
   ·exact look_dropE' ds l t h
theorem runW_keeps : ∀ {f : Nat} {us : List Nat} {ops : List IOper} {σ σ' : St} {L : List SD}, runW G f us ops σ = some (σ', L) → Keeps ops σ σ'
 | 0, us, ops, σ, σ', L, h => by simp only [runW] at h; cases h
 | f + 1, us, [], σ, σ', L, h => by simp only [runW] at h; cases h; exact ⟨fun _ _ => rfl, rfl, rfl, rfl, fun _ => ⟨rfl, rfl⟩⟩
 | f + 1, us, o :: l, σ, σ', L, h => by
  simp only [runW] at h
  split at h
  ·split at h
   ·split at h <;> try (cases h; done)
    rename_i r hr
    split at h <;> cases h
    rename_i hw
    have ih := runW_keeps hw
    refine ⟨fun t ht => ?_, by rw [ih.fr, app_dfs.2.2], by rw [ih.dfs, app_dfs.1], by rw [ih.base, app_dfs.2.1], fun hp => ?_⟩
    ·obtain ⟨h1, h2⟩ := dsts_cons ht
     rw [ih.env t h1, app_env h2]
    ·simp only [purOps, Bool.and_eq_true] at hp
     obtain ⟨h3, h4⟩ := ih.heap hp.2
     rw [opC_pure hr hp.1] at h3 h4
     exact ⟨h3.trans (by rw [app_pure.1]), h4.trans app_pure.2⟩
   ·split at h <;> cases h
    rename_i hw
    have ih := runW_keeps hw
    refine ⟨fun t ht => ?_, by rw [ih.fr, put_dfs.2.2.1], by rw [ih.dfs, put_dfs.1], by rw [ih.base, put_dfs.2.1], fun hp => ?_⟩
    ·obtain ⟨h1, h2⟩ := dsts_cons ht
     rw [ih.env t h1, put_env h2]
    ·simp only [purOps, Bool.and_eq_true] at hp
     obtain ⟨h3, h4⟩ := ih.heap hp.2
     exact ⟨h3.trans (by rw [put_dfs.2.2.2.1]), h4.trans put_dfs.2.2.2.2⟩
   ·cases h
  ·split at h <;> try (cases h; done)
   split at h <;> try (cases h; done)
   rename_i n hn
   split at h <;> try (cases h; done)
   rename_i t0 ht0
   split at h <;> try (cases h; done)
   rename_i hpur
   split at h <;> try (cases h; done)
   rename_i hw1
   split at h <;> try (cases h; done)
   rename_i hw2
   split at h <;> try (cases h; done)
   split at h <;> cases h
   rename_i hw
   have ih := runW_keeps hw
   have e : o :: l = (o :: l).take n ++ (o :: l).drop n := (List.take_append_drop _ _).symm
   have hd0 : ∀ {ops : List IOper} {t0 : Nat}, lastD ops = some t0 → (dsts ops).contains t0 = true := by
    intro ops
    induction ops with
    | nil => intro t0 h; cases h
    | cons x xs ihx =>
     intro t0 h
     cases xs with
     | nil => simp only [lastD] at h; simp [dsts, h]
     | cons y ys =>
      simp only [lastD] at h
      have := ihx h
      rw [dsts]
      split
      ·rw [List.contains_cons, this, Bool.or_true]
      ·exact this
   refine ⟨fun t ht => ?_, ih.fr, ih.dfs, ih.base, fun hp => ?_⟩
   ·rw [e, dsts_app, List.contains_append, Bool.or_eq_false_iff] at ht
    rw [ih.env t ht.2]
    show look ((t0, _) :: dropE _ σ.env) t = _
    rw [look_cons, if_neg (fun e => by subst e; rw [hd0 ht0] at ht; cases ht.1), look_dropE' _ _ _ ht.1]
   ·rw [e, purOps_app, Bool.and_eq_true] at hp
    exact ih.heap hp.2
theorem runW_len : ∀ {f : Nat} {us : List Nat} {ops : List IOper} {σ σ' : St} {L : List SD}, runW G f us ops σ = some (σ', L) → L.length = ops.length
 | 0, us, ops, σ, σ', L, h => by simp only [runW] at h; cases h
 | f + 1, us, [], σ, σ', L, h => by simp only [runW] at h; cases h; rfl
 | f + 1, us, o :: l, σ, σ', L, h => by
  simp only [runW] at h
  split at h
  ·split at h
   ·split at h <;> try (cases h; done)
    split at h <;> cases h
    rename_i hw
    simp [runW_len hw]
   ·split at h <;> cases h
    rename_i hw
    simp [runW_len hw]
   ·cases h
  ·split at h <;> try (cases h; done)
   split at h <;> try (cases h; done)
   rename_i n hn
   split at h <;> try (cases h; done)
   split at h <;> try (cases h; done)
   split at h <;> try (cases h; done)
   rename_i hw1
   split at h <;> try (cases h; done)
   rename_i hw2
   split at h <;> try (cases h; done)
   split at h <;> cases h
   rename_i hw
   have e1 := runW_len hw1
   have e2 := runW_len hw2
   have e3 := runW_len hw
   rw [List.length_append, joinS_len (by omega), e1, e3, ← List.length_append, List.take_append_drop]
theorem runW_ok {K : St → List SD → Prop} {rest : List IOper} : ∀ {f : Nat} {us : List Nat} {ops : List IOper} {σ σ' : St} {L : List SD}, runW G f us ops σ = some (σ', L) → ∀ {σa : St} {sds : List SD}, Ge σa σ →
  (∀ σb s, Ge σb σ' → SdsLe s L → RunC P G nt K rest σb (sds ++ s)) → RunC P G nt K (ops ++ rest) σa sds
 | 0, us, ops, σ, σ', L, h => by simp only [runW] at h; cases h
 | f + 1, us, [], σ, σ', L, h => by
  simp only [runW] at h; cases h
  intro hg k
  have := k _ [] hg trivial
  rwa [List.append_nil] at this
 | f + 1, us, o :: l, σ, σ', L, h => by
  intro hg k
  rename_i σa sds
  simp only [runW] at h
  split at h
  ·split at h
   ·split at h <;> try (cases h; done)
    rename_i r hr
    split at h <;> cases h
    rename_i hw
    obtain ⟨h1, h2, h3, h4⟩ := opC_ok (P := P) (nt := nt) hr
    refine .step (h1 _) (hg.wants (gdC_t (by assumption))) (hg.evs h2) (by rw [hg.heap]; exact h3) (by rw [hg.nx]; exact h4) ?_
    rw [hg.fr]
    refine runW_ok hw (hg.app _ _ _ _) fun σb s hb hs => ?_
    rw [List.append_assoc]
    exact k σb _ hb ⟨.refl _, hs⟩
   ·rename_i hgd
    split at h <;> cases h
    rename_i hw
    refine .skip (hg.skips (gdC_f hgd)) ?_
    refine runW_ok hw (hg.put _ _) fun σb s hb hs => ?_
    rw [List.append_assoc]
    exact k σb _ hb ⟨.refl _, hs⟩
   ·cases h
  ·rename_i t b hob
   split at h <;> try (cases h; done)
   rename_i p hp
   split at h <;> try (cases h; done)
   rename_i n hn
   split at h <;> try (cases h; done)
   rename_i t0 ht0
   split at h <;> try (cases h; done)
   rename_i hpur
   split at h <;> try (cases h; done)
   rename_i σ1 L1 hw1
   split at h <;> try (cases h; done)
   rename_i σ2 L2 hw2
   split at h <;> try (cases h; done)
   rename_i v0 hv0
   split at h <;> cases h
   rename_i L3 hw
   have e : o :: l = (o :: l).take n ++ (o :: l).drop n := (List.take_append_drop _ _).symm
   have hap : (o :: l) ++ rest = (o :: l).take n ++ ((o :: l).drop n ++ rest) := by rw [← List.append_assoc, ← e]
   rw [hap]
   have hlp := asB_eq hp
   -- one way
   have way : ∀ (q : Bool) (σq : St) (Lq : List SD), p = q → runW G f (rmN t us) ((o :: l).take n) (σ.pt t (.d (.bool q))) = some (σq, Lq) → look σq.env t0 = some v0 → (∀ s, SdsLe s Lq → SdsLe s (joinS L1 L2)) →
     RunC P G nt K ((o :: l).take n ++ ((o :: l).drop n ++ rest)) (σa.pt t (.d (.bool q))) sds := by
    intro q σq Lq hpq hwq hvq hL
    refine runW_ok hwq (hg.pt t _) fun σb s hb hs => ?_
    have hk := runW_keeps hwq
    obtain ⟨k1, k2⟩ := hk.heap hpur
    refine runW_ok hw ⟨fun t' v' hv' => ?_, hb.heap.trans k1, hb.nx.trans k2, hb.fr.trans hk.fr, hb.dfs.trans hk.dfs, hb.base.trans hk.base⟩ fun σc s' hc hs' => ?_
    ·simp only at hv'
     rw [look_cons] at hv'
     split at hv'
     ·rename_i e; subst e; cases hv'; exact hb.env _ _ hvq
     ·obtain ⟨d1, d2⟩ := look_dropE _ _ t' v' hv'
      refine hb.env _ _ ?_
      rw [hk.env t' d1]
      show look ((t, _) :: σ.env) t' = _
      rw [look_cons]
      split
      ·rename_i e; subst e; rw [hlp] at d2; rw [← hpq]; exact d2
      ·exact d2
    ·rw [List.append_assoc]
     exact k σc _ hc (SdsLe.app (hL s hs) hs')
   refine r_split t (hg.env _ _ hlp) (fun hp1 => ?_) (fun hp1 => ?_)
   ·subst hp1
    exact way true σ1 L1 rfl hw1 (comb_T hv0) (fun s hs => hs.joinL (by rw [runW_len hw1, runW_len hw2]))
   ·subst hp1
    exact way false σ2 L2 rfl hw2 (comb_F hv0) (fun s hs => hs.joinR (by rw [runW_len hw1, runW_len hw2]))
end
end Go.Abs
namespace Go.Abs
section
variable {P : Program} {nt : Nat} {G : Gl} {F : Fence}
theorem RunC.mono {K K' : St → List SD → Prop} {ops : List IOper} {σ : St} {s : List SD} (h : RunC P G nt K ops σ s) (hk : ∀ σ s, K σ s → K' σ s) : RunC P G nt K' ops σ s := by
 induction h with
 | nil h => exact .nil (hk _ _ h)
 | step h hg hE hH hn k ih => exact .step h hg hE hH hn ih
 | stepF h hg hE hH hn k ih => exact .stepF h hg hE hH hn ih
 | skip hg k ih => exact .skip hg ih
 | know h k ih => exact .know h ih
def keysE (l : List (Nat × V)) : List Nat := l.map (·.1)
def segB (G : Gl) (us : List Nat) (d : Bool) (ops : List IOper) (σ : St) (ts rs : List Nat) (nx : Nat) : Option St :=
 match runW G 400 us ops σ with
 | some (σ', L) => match d with
  | false => keepS σ' ts rs nx
  | true => match okD ops L with
   | true => keepS σ' ts rs nx
   | false => none
 | none => none
theorem run_ge {us : List Nat} {ops : List IOper} {σ σ' : St} {L : List SD} (h : runW G 400 us ops σ = some (σ', L)) : RunC P G nt (fun σb s => Ge σb σ' ∧ SdsLe s L) ops σ [] := by
 have := runW_ok (P := P) (nt := nt) (K := fun σb s => Ge σb σ' ∧ SdsLe s L) (rest := []) h (Ge.refl σ) (sds := []) (fun σb s hb hs => .nil ⟨hb, hs⟩)
 rwa [List.append_nil] at this
def Qw (Q : Post) : Post := fun e σ => ∃ σx σ1, Ge σ σx ∧ σ1.Sub σx ∧ Q e σ1
theorem AW.qw {ic : ICode} {Q : Post} {σ : St} (h : AW P G nt F ic (Qw Q) σ) : AW P G nt F ic Q σ := by
 intro code ht c a w hR
 refine wpIn_mono (h code ht c a w hR) ?_
 rintro e a1 w1 ⟨σ2, c1, ⟨σx, σ1, hg, hs, hq⟩, hR2, hW⟩
 obtain ⟨hR3, hW3⟩ := (hR2.ge hg).sub hs
 exact ⟨σ1, c1, hq, hR3, (hW.ge hg).trans hW3⟩
theorem AW.ra (hF : FOk F) {d : Bool} {ops : List IOper} {Q : Post} {σ : St} (us : List Nat) (σ1 : St) (h : segB G us d ops σ (keysE σ1.env) (keysL σ1.heap) σ1.nx = some σ1) (k : Q .normal σ1) : AW P G nt F (.reg d ops) Q σ := by
 unfold segB at h
 split at h
 ·rename_i σ' L hw
  refine AW.qw ?_
  cases d with
  | false => exact AW.reg hF (RunC.mono (run_ge hw) fun σb s hb => ⟨σ', σ1, hb.1, keepS_ok h, k⟩)
  | true =>
   simp only at h
   split at h
   ·rename_i hok
    exact AW.regD hF (RunC.mono (run_ge hw) fun σb s hb => ⟨okD_mono hb.2 hok, σ', σ1, hb.1, keepS_ok h, k⟩)
   ·cases h
 ·cases h
theorem AW.sa (hF : FOk F) {d : Bool} {ops : List IOper} {y : ICode} {Q : Post} {σ : St} (us : List Nat) (σ1 : St) (h : segB G us d ops σ (keysE σ1.env) (keysL σ1.heap) σ1.nx = some σ1) (k : AW P G nt F y Q σ1) : AW P G nt F (.seq (.reg d ops) y) Q σ :=
 AW.seq (AW.ra hF us σ1 h k)
theorem RW.ge {ops : List IOper} {Q : Post} {σ σb : St} (hg : Ge σb σ) (h : RW P G nt F ops Q σ) : RW P G nt F ops Q σb := by
 intro cops i hl ht c0 σ0 w0 c a w hR hW
 exact h cops i hl ht c0 σ0 w0 c a w (hR.ge hg) (hW.ge hg)
theorem RW.au (hF : FOk F) (n : Nat) {ops : List IOper} {Q : Post} {σ : St} (us : List Nat) (σ1 : St) (h : segB G us false (ops.take n) σ (keysE σ1.env) (keysL σ1.heap) σ1.nx = some σ1) (k : RW P G nt F (ops.drop n) Q σ1) : RW P G nt F ops Q σ := by
 unfold segB at h
 split at h
 ·rename_i σ' L hw
  refine RW.run hF n (RunC.mono (run_ge hw) fun σb s hb => RW.ge hb.1 (RW.sub hF (keepS_ok h) k))
 ·cases h
theorem RW.one (hF : FOk F) {o : IOper} {ops : List IOper} {Q : Post} {σ : St} (h : RunC P G nt (fun σ' _ => RW P G nt F ops Q σ') [o] σ []) : RW P G nt F (o :: ops) Q σ :=
 RW.run hF 1 h
theorem AW.rw {ops : List IOper} {Q : Post} {σ : St} (h : RW P G nt F ops Q σ) : AW P G nt F (.reg false ops) Q σ := AW.regW h
def normH : List (Nat × Blk) → List (Nat × Blk)
 | [] => []
 | (r, b) :: l => (r, b) :: (normH l).filter (fun p => !(Nat.beq p.1 r))
theorem look_filter (r : Nat) : ∀ (l : List (Nat × Blk)) (n : Nat), n ≠ r → look (l.filter (fun p => !(Nat.beq p.1 r))) n = look l n
 | [], n, _ => rfl
 | (k, x) :: l, n, h => by
  rw [List.filter_cons]
  by_cases e : k = r
  ·subst e
   simp only [Nat.beq_refl, Bool.not_true, Bool.false_eq_true, if_false]
   rw [look_filter _ l n h, look_cons, if_neg (fun e => h e.symm)]
  ·have : Nat.beq k r = false := by
    cases hb : Nat.beq k r with
    | true => exact absurd (Nat.eq_of_beq_eq_true hb) e
    | false => rfl
   simp only [this, Bool.not_false, if_true]
   rw [look_cons, look_cons, look_filter r l n h]
theorem look_normH : ∀ (l : List (Nat × Blk)), look (normH l) = look l
 | [] => rfl
 | (r, b) :: l => by
  funext n
  simp only [normH]
  rw [look_cons, look_cons]
  split
  ·rfl
  ·rename_i h
   rw [look_filter r _ n (fun e => h e.symm), look_normH l]
def autR (G : Gl) (ops : List IOper) (σ : St) (ts : List Nat) : Option St :=
 match runC G ops σ [] with
 | some (σ', _) => match selE σ'.env ts with
  | some e => some ⟨e, normH σ'.heap, σ'.nx, σ'.fr, σ'.dfs, σ'.base⟩
  | none => none
 | none => none
def sdsC (G : Gl) (ops : List IOper) (σ : St) : List SD := match runC G ops σ [] with | some (_, s) => s | none => []
theorem runC_pre : ∀ {ops : List IOper} {σ σ' : St} {s0 s : List SD}, runC G ops σ s0 = some (σ', s) → ∀ s1, runC G ops σ (s1 ++ s0) = some (σ', s1 ++ s)
 | [], σ, σ', s0, s, h, s1 => by simp only [runC] at h ⊢; cases h; rfl
 | o :: l, σ, σ', s0, s, h, s1 => by
  simp only [runC] at h ⊢
  cases hg : gdC σ o.guard with
  | none => rw [hg] at h; cases h
  | some g =>
   rw [hg] at h
   cases g with
   | true =>
    cases ho : opC G σ o.op with
    | none => rw [ho] at h; cases h
    | some r =>
     rw [ho] at h
     simp only at h ⊢
     rw [List.append_assoc]; exact runC_pre h s1
   | false =>
    simp only at h ⊢
    rw [List.append_assoc]; exact runC_pre h s1
def Kd (ops : List IOper) (Q : Post) : St → List SD → Prop := Kc (fun σ' s => okD ops s = true ∧ ∃ σ1, σ1.Sub σ' ∧ Q .normal σ1)
theorem AW.drw (hF : FOk F) {ops : List IOper} {Q : Post} {σ : St} (h : RunC P G nt (Kd ops Q) ops σ []) : AW P G nt F (.reg true ops) Q σ := by
 refine AW.qw (AW.regD hF (RunC.mono h fun σb s hb => ?_))
 obtain ⟨σx, hg, hok, σ1, hs, hq⟩ := hb
 exact ⟨hok, σx, σ1, hg, hs, hq⟩
theorem RunC.fin {ops : List IOper} {Q : Post} {σ : St} {sds : List SD} (σ1 : St) (hok : okD ops sds = true) (h : keepS σ (keysE σ1.env) (keysL σ1.heap) σ1.nx = some σ1) (k : Q .normal σ1) : RunC P G nt (Kd ops Q) [] σ sds :=
 .nil ⟨σ, Ge.refl _, hok, σ1, keepS_ok h, k⟩
end
end Go.Abs
namespace Go.Abs
inductive Ctl (S R : Type) where
 | next (s : S)
 | brk (r : R)
def bindC {S R : Type} : Option (Ctl S R) → (S → Option R) → Option R
 | none, _ => none
 | some (.next s), k => k s
 | some (.brk r), _ => some r
def forS {S : Type} (f : Int → S → Option S) : Nat → Int → S → Option S
 | 0, _, s => some s
 | n + 1, i, s => (f i s).bind fun s' => forS f n (i + 1) s'
def forC {S R : Type} (f : Int → S → Option (Ctl S R)) : Nat → Int → S → Option (Ctl S R)
 | 0, _, s => some (.next s)
 | n + 1, i, s => (f i s).bind fun c => match c with
  | .next s' => forC f n (i + 1) s'
  | .brk r => some (.brk r)
def eachS {α S : Type} (f : Int → α → S → Option S) : List α → Int → S → Option S
 | [], _, s => some s
 | x :: xs, i, s => (f i x s).bind fun s' => eachS f xs (i + 1) s'
def eachC {α S R : Type} (f : Int → α → S → Option (Ctl S R)) : List α → Int → S → Option (Ctl S R)
 | [], _, s => some (.next s)
 | x :: xs, i, s => (f i x s).bind fun c => match c with
  | .next s' => eachC f xs (i + 1) s'
  | .brk r => some (.brk r)
def whileC {S R : Type} (f : S → Option (Ctl S R)) : Nat → S → Option R
 | 0, _ => none
 | n + 1, s => (f s).bind fun c => match c with
  | .next s' => whileC f n s'
  | .brk r => some r
def ixL {α : Type} (xs : List α) (i : Int) : Option α := bif decide (0 ≤ i) then xs[i.toNat]? else none
def ixN (n : Nat) (i : Int) : Option Nat := bif decide (0 ≤ i) && Nat.blt i.toNat n then some i.toNat else none
def must (b : Bool) : Option Unit := bif b then some () else none
def aset {α : Type} (w : Nat → α) (j : Nat) (x : α) : Nat → α := fun k => bif Nat.beq k j then x else w k
def roomB (n : Nat) (bytes : Nat) : Bool := Nat.ble (n * bytes) 140737488355328
theorem ifT {α : Type} {b : Bool} {x y r : α} (hb : b = true) (h : (bif b then x else y) = r) : x = r := by subst hb; exact h
theorem ifF {α : Type} {b : Bool} {x y r : α} (hb : b = false) (h : (bif b then x else y) = r) : y = r := by subst hb; exact h
theorem bsome {α β : Type} {o : Option α} {f : α → Option β} {r : β} (h : o.bind f = some r) : ∃ x, o = some x ∧ f x = some r := Option.bind_eq_some_iff.1 h
def Aft {S R : Type} (k : S → Option R) (r : R) : Ctl S R → Prop
 | .next s => k s = some r
 | .brk r' => r' = r
theorem bsomeC {S R : Type} {o : Option (Ctl S R)} {k : S → Option R} {r : R} (h : bindC o k = some r) : ∃ c, o = some c ∧ Aft k r c := by
 cases o with
 | none => cases h
 | some c =>
  cases c with
  | next s => exact ⟨_, rfl, h⟩
  | brk r' => exact ⟨_, rfl, Option.some.inj h⟩
theorem Aft.nx {S R : Type} {k : S → Option R} {r : R} {s : S} (h : Aft k r (.next s)) : k s = some r := h
theorem Aft.bk {S R : Type} {k : S → Option R} {r r' : R} (h : Aft k r (.brk r')) : r' = r := h
theorem must_ok {b : Bool} {u : Unit} (h : must b = some u) : b = true := by
 cases b with
 | true => rfl
 | false => cases h
theorem ixL_ok {α : Type} {xs : List α} {i : Int} {x : α} (h : ixL xs i = some x) : 0 ≤ i ∧ xs[i.toNat]? = some x := by
 unfold ixL at h
 cases hd : decide (0 ≤ i) with
 | true => rw [hd] at h; exact ⟨of_decide_eq_true hd, h⟩
 | false => rw [hd] at h; cases h
theorem ixN_ok {n : Nat} {i : Int} {j : Nat} (h : ixN n i = some j) : 0 ≤ i ∧ i.toNat < n ∧ i.toNat = j := by
 unfold ixN at h
 cases hd : decide (0 ≤ i) && Nat.blt i.toNat n with
 | true =>
  rw [hd] at h
  simp only [Bool.and_eq_true] at hd
  exact ⟨of_decide_eq_true hd.1, Nat.le_of_ble_eq_true hd.2, Option.some.inj h⟩
 | false => rw [hd] at h; cases h
theorem mapget {α β : Type} {xs : List α} {n : Nat} {x : α} {f : α → β} (h : xs[n]? = some x) : (xs.map f)[n]? = some (f x) := by rw [List.getElem?_map, h]; rfl
theorem inext {i N : Int} (h : i < N) (hN : N ≤ 9223372036854775807) (h0 : -9223372036854775808 ≤ i) : IntKind.i64.wrap (i + 1) = i + 1 := wrap_in ⟨by omega, by omega⟩
section
variable {P : Program} {nt : Nat} {G : Gl} {F : Fence}
def Can (G : Gl) (nt : Nat) (σ σ1 : St) : Prop := ∀ (c : Cx) (a : Act) (w : World), RelS G nt c σ a w → ∃ c', RelS G nt c' σ1 a w ∧ Went c σ w c' σ1 w
theorem Can.refl (σ : St) : Can G nt σ σ := fun c a w h => ⟨c, h, Went.refl _ _ _⟩
theorem Can.trans {σ σ1 σ2 : St} (h : Can G nt σ σ1) (k : Can G nt σ1 σ2) : Can G nt σ σ2 := fun c a w hR => by
 obtain ⟨c1, h1, h2⟩ := h c a w hR
 obtain ⟨c2, h3, h4⟩ := k c1 a w h1
 exact ⟨c2, h3, h2.trans h4⟩
theorem Can.sub {σ σ1 : St} (h : σ1.Sub σ) : Can G nt σ σ1 := fun c a w hR => ⟨c, hR.sub h⟩
theorem Can.kp {σ σ1 : St} (h : keepS σ (keysE σ1.env) (keysL σ1.heap) σ1.nx = some σ1) : Can G nt σ σ1 := .sub (keepS_ok h)
theorem AW.can {y : ICode} {Q : Post} {σ σ1 : St} (h : Can G nt σ σ1) (k : AW P G nt F y Q σ1) : AW P G nt F y Q σ := by
 intro code htr c a w hR
 obtain ⟨c1, h1, h2⟩ := h c a w hR
 refine wpIn_mono (k code htr c1 a w h1) ?_
 rintro e a1 w1 ⟨σ2, c2, h3, h4, h5⟩
 exact ⟨σ2, c2, h3, h4, h2.trans h5⟩
theorem AW.canQ {y : ICode} {Q : Post} {σ : St} (k : AW P G nt F y (fun e σ' => ∃ σ1, Can G nt σ' σ1 ∧ Q e σ1) σ) : AW P G nt F y Q σ := by
 intro code htr c a w hR
 refine wpIn_mono (k code htr c a w hR) ?_
 rintro e a1 w1 ⟨σ2, c2, ⟨σ1, hc, hq⟩, h4, h5⟩
 obtain ⟨c3, h6, h7⟩ := hc c2 a1 w1 h4
 exact ⟨σ1, c3, hq, h6, h5.trans h7⟩
theorem RW.can {ops : List IOper} {Q : Post} {σ σ1 : St} (h : Can G nt σ σ1) (k : RW P G nt F ops Q σ1) : RW P G nt F ops Q σ := by
 intro cops i hl ht c0 σ0 w0 c a w hR hW
 obtain ⟨c1, h1, h2⟩ := h c a w hR
 exact k cops i hl ht c0 σ0 w0 c1 a w h1 (hW.trans h2)
theorem AW.loopC {ι : Type} (st : ι → St) (I : ι → Prop) (μ : ι → Nat) {x : ICode} {Q : Post} {σ : St} (i0 : ι) (h0 : I i0) (hs : Can G nt σ (st i0))
  (round : ∀ i, I i → AW P G nt F x (thenQ (fun σ' => ∃ j, I j ∧ μ j < μ i ∧ Can G nt σ' (st j)) Q) (st i)) : AW P G nt F (.loop x) Q σ := by
 intro code ht c a w hR
 cases ht with
 | loop ha =>
  obtain ⟨c0, hR0, hx0⟩ := hs c a w hR
  rename_i body
  intro b k cs hro hb hr
  have key : ∀ (n : Nat) (i : ι), μ i < n → I i → ∀ c' a' w', RelS G nt c' (st i) a' w' → Went c σ w c' (st i) w' →
    ∃ e a2 w2, Holds G nt c σ w Q e a2 w2 ∧ ArrivesIn (Machine.fenced P F) P (lone (b.atR a' (.code body :: .inLoop body :: k)) cs w') b k cs e a2 w2 := by
   intro n
   induction n with
   | zero => intro i hi; omega
   | succ n ih =>
    intro i hn hi c' a' w' hR' hx'
    obtain ⟨e, a1, w1, ⟨σ1, c1, hq, hR1, hx1⟩, harr⟩ := round i hi _ ha c' a' w' hR' b (.inLoop body :: k) cs hro hb hr
    cases e with
    | normal =>
     obtain ⟨j, hj, hlt, hsub⟩ := hq
     obtain ⟨c2, hR2, hx2⟩ := hsub c1 a1 w1 hR1
     obtain ⟨e2, a2, w2, hq2, harr2⟩ := ih j (by omega) hj c2 a1 w1 hR2 ((hx'.trans hx1).trans hx2)
     exact ⟨e2, a2, w2, hq2, .of_steps (StepsIn.trans harr (.one (fenced_calm hb hr rfl) stepR_inLoop)) harr2⟩
    | exit id => exact ⟨_, a1, w1, ⟨σ1, c1, hq, hR1, hx'.trans hx1⟩, .pass (x := .inLoop body) rfl (fun _ _ => .inl (by simp)) harr⟩
    | goto l => exact ⟨_, a1, w1, ⟨σ1, c1, hq, hR1, hx'.trans hx1⟩, .pass (x := .inLoop body) rfl (fun _ _ => .inl (by simp)) harr⟩
    | ret => exact ⟨_, a1, w1, ⟨σ1, c1, hq, hR1, hx'.trans hx1⟩, .pass (x := .inLoop body) rfl (fun _ _ => .inl (by simp)) harr⟩
    | panic ch => exact ⟨_, a1, w1, ⟨σ1, c1, hq, hR1, hx'.trans hx1⟩, .pass (x := .inLoop body) rfl (fun _ _ => .inl (by simp)) harr⟩
    | outgrown => exact ⟨_, a1, w1, ⟨σ1, c1, hq, hR1, hx'.trans hx1⟩, .pass (x := .inLoop body) rfl (fun _ _ => .inl (by simp)) harr⟩
  obtain ⟨e, a2, w2, hq, harr⟩ := key (μ i0 + 1) i0 (by omega) h0 c0 a w hR0 hx0
  exact ⟨e, a2, w2, hq, .of_steps (.one (fenced_calm hb hr rfl) stepR_loop) harr⟩
theorem AW.lpC {S R : Type} (st : Int → S → St) (f : Int → S → Option (Ctl S R)) (N : Int) {i0 : Int} {s0 : S} {out : Ctl S R} {x : ICode} {Q : Post} {σ : St} (h : forC f (N - i0).toNat i0 s0 = some out) (hs : Can G nt σ (st i0 s0))
  (body : ∀ i s, i0 ≤ i → i < N → ∀ c, f i s = some c → (∀ r, c = .brk r → out = .brk r) → AW P G nt F x (thenQ (fun σ' => ∃ s', c = .next s' ∧ Can G nt σ' (st (i + 1) s')) Q) (st i s))
  (done : ∀ i s, i0 ≤ i → N ≤ i → out = .next s → AW P G nt F x (thenQ (fun _ => False) Q) (st i s)) : AW P G nt F (.loop x) Q σ := by
 refine AW.loopC (fun p : Int × S => st p.1 p.2) (fun p => i0 ≤ p.1 ∧ forC f (N - p.1).toNat p.1 p.2 = some out) (fun p => (N - p.1).toNat + 1 - (if N ≤ p.1 then 1 else 0)) (i0, s0) ⟨Int.le_refl _, h⟩ hs ?_
 rintro ⟨i, s⟩ ⟨hi, hf⟩
 simp only at hi hf ⊢
 by_cases hN : N ≤ i
 ·have e : (N - i).toNat = 0 := by omega
  rw [e] at hf
  have := (Option.some.inj hf).symm
  refine (done i s hi hN this).mono fun e σ' hq => ?_
  cases e with
  | normal => exact hq.elim
  | _ => exact hq
 ·have e : (N - i).toNat = (N - (i + 1)).toNat + 1 := by omega
  rw [e] at hf
  simp only [forC] at hf
  obtain ⟨c, hc, hk⟩ := bsome hf
  refine (body i s hi (by omega) c hc (fun r hr => ?_)).mono fun e σ' hq => ?_
  ·subst hr; exact (Option.some.inj hk).symm
  ·cases e with
   | normal =>
    obtain ⟨s', hs', hsub⟩ := hq
    subst hs'
    refine ⟨(i + 1, s'), ⟨by simp only; omega, hk⟩, ?_, hsub⟩
    simp only [if_neg hN]
    split <;> omega
   | _ => exact hq
theorem AW.lpS {S : Type} (st : Int → S → St) (f : Int → S → Option S) (N : Int) {i0 : Int} {s0 out : S} {x : ICode} {Q : Post} {σ : St} (h : forS f (N - i0).toNat i0 s0 = some out) (hs : Can G nt σ (st i0 s0))
  (body : ∀ i s, i0 ≤ i → i < N → ∀ c, f i s = some c → AW P G nt F x (thenQ (fun σ' => Can G nt σ' (st (i + 1) c)) Q) (st i s))
  (done : ∀ i s, i0 ≤ i → N ≤ i → s = out → AW P G nt F x (thenQ (fun _ => False) Q) (st i s)) : AW P G nt F (.loop x) Q σ := by
 refine AW.loopC (fun p : Int × S => st p.1 p.2) (fun p => i0 ≤ p.1 ∧ forS f (N - p.1).toNat p.1 p.2 = some out) (fun p => (N - p.1).toNat + 1 - (if N ≤ p.1 then 1 else 0)) (i0, s0) ⟨Int.le_refl _, h⟩ hs ?_
 rintro ⟨i, s⟩ ⟨hi, hf⟩
 simp only at hi hf ⊢
 by_cases hN : N ≤ i
 ·have e : (N - i).toNat = 0 := by omega
  rw [e] at hf
  have := Option.some.inj hf
  refine (done i s hi hN this).mono fun e σ' hq => ?_
  cases e with
  | normal => exact hq.elim
  | _ => exact hq
 ·have e : (N - i).toNat = (N - (i + 1)).toNat + 1 := by omega
  rw [e] at hf
  simp only [forS] at hf
  obtain ⟨c, hc, hk⟩ := bsome hf
  refine (body i s hi (by omega) c hc).mono fun e σ' hq => ?_
  cases e with
  | normal =>
   refine ⟨(i + 1, c), ⟨by simp only; omega, hk⟩, ?_, hq⟩
   simp only [if_neg hN]
   split <;> omega
  | _ => exact hq
theorem drop_cons {α : Type} {xs : List α} {n : Nat} {x : α} (h : xs[n]? = some x) : xs.drop n = x :: xs.drop (n + 1) := by
 have hlt := (List.getElem?_eq_some_iff.1 h).1
 rw [List.drop_eq_getElem_cons hlt, (List.getElem?_eq_some_iff.1 h).2]
theorem eachS_for {α S : Type} (f : Int → α → S → Option S) (xs : List α) : ∀ (n i : Nat) (s : S), i + n = xs.length → eachS f (xs.drop i) i s = forS (fun i s => (ixL xs i).bind fun x => f i x s) n i s
 | 0, i, s, h => by rw [List.drop_of_length_le (by omega)]; rfl
 | n + 1, i, s, h => by
  obtain ⟨x, hx⟩ : ∃ x, xs[i]? = some x := ⟨_, List.getElem?_eq_getElem (by omega)⟩
  rw [drop_cons hx]
  simp only [eachS, forS]
  have e : ixL xs (i : Int) = some x := by simp [ixL, hx]
  rw [e]
  simp only [Option.bind_some]
  congr 1; funext s'
  exact eachS_for f xs n (i + 1) s' (by omega)
theorem eachC_for {α S R : Type} (f : Int → α → S → Option (Ctl S R)) (xs : List α) : ∀ (n i : Nat) (s : S), i + n = xs.length → eachC f (xs.drop i) i s = forC (fun i s => (ixL xs i).bind fun x => f i x s) n i s
 | 0, i, s, h => by rw [List.drop_of_length_le (by omega)]; rfl
 | n + 1, i, s, h => by
  obtain ⟨x, hx⟩ : ∃ x, xs[i]? = some x := ⟨_, List.getElem?_eq_getElem (by omega)⟩
  rw [drop_cons hx]
  simp only [eachC, forC]
  have e : ixL xs (i : Int) = some x := by simp [ixL, hx]
  rw [e]
  simp only [Option.bind_some]
  congr 1; funext c
  cases c with
  | next s' => exact eachC_for f xs n (i + 1) s' (by omega)
  | brk r => rfl
theorem AW.evC {α S R : Type} (st : Int → S → St) (f : Int → α → S → Option (Ctl S R)) {xs : List α} {s0 : S} {out : Ctl S R} {x : ICode} {Q : Post} {σ : St} (h : eachC f xs 0 s0 = some out) (hs : Can G nt σ (st 0 s0))
  (body : ∀ (i : Int) p s, 0 ≤ i → i < xs.length → xs[i.toNat]? = some p → ∀ c, f i p s = some c → (∀ r, c = .brk r → out = .brk r) → AW P G nt F x (thenQ (fun σ' => ∃ s', c = .next s' ∧ Can G nt σ' (st (i + 1) s')) Q) (st i s))
  (done : ∀ (i : Int) s, 0 ≤ i → (xs.length : Int) ≤ i → out = .next s → AW P G nt F x (thenQ (fun _ => False) Q) (st i s)) : AW P G nt F (.loop x) Q σ := by
 have h' := eachC_for f xs xs.length 0 s0 (by omega)
 rw [List.drop_zero] at h'
 have h2 : forC (fun i s => (ixL xs i).bind fun x => f i x s) ((xs.length : Int) - 0).toNat 0 s0 = some out := by rw [← h]; exact h'.symm
 refine AW.lpC st _ xs.length h2 hs (fun i s h0 hN c hc hb => ?_) done
 obtain ⟨p, hp, hf⟩ := bsome hc
 exact body i p s h0 hN (ixL_ok hp).2 c hf hb
theorem AW.evS {α S : Type} (st : Int → S → St) (f : Int → α → S → Option S) {xs : List α} {s0 out : S} {x : ICode} {Q : Post} {σ : St} (h : eachS f xs 0 s0 = some out) (hs : Can G nt σ (st 0 s0))
  (body : ∀ (i : Int) p s, 0 ≤ i → i < xs.length → xs[i.toNat]? = some p → ∀ c, f i p s = some c → AW P G nt F x (thenQ (fun σ' => Can G nt σ' (st (i + 1) c)) Q) (st i s))
  (done : ∀ (i : Int) s, 0 ≤ i → (xs.length : Int) ≤ i → s = out → AW P G nt F x (thenQ (fun _ => False) Q) (st i s)) : AW P G nt F (.loop x) Q σ := by
 have h' := eachS_for f xs xs.length 0 s0 (by omega)
 rw [List.drop_zero] at h'
 have h2 : forS (fun i s => (ixL xs i).bind fun x => f i x s) ((xs.length : Int) - 0).toNat 0 s0 = some out := by rw [← h]; exact h'.symm
 refine AW.lpS st _ xs.length h2 hs (fun i s h0 hN c hc => ?_) done
 obtain ⟨p, hp, hf⟩ := bsome hc
 exact body i p s h0 hN (ixL_ok hp).2 c hf
theorem AW.wh {S R : Type} (st : S → St) (f : S → Option (Ctl S R)) {n : Nat} {s0 : S} {out : R} {x : ICode} {Q : Post} {σ : St} (h : whileC f n s0 = some out) (hs : Can G nt σ (st s0))
  (body : ∀ s c, f s = some c → (∀ r, c = .brk r → r = out) → AW P G nt F x (thenQ (fun σ' => ∃ s', c = .next s' ∧ Can G nt σ' (st s')) Q) (st s)) : AW P G nt F (.loop x) Q σ := by
 refine AW.loopC (fun p : Nat × S => st p.2) (fun p => whileC f p.1 p.2 = some out) (fun p => p.1) (n, s0) h hs ?_
 rintro ⟨n, s⟩ hf
 simp only at hf ⊢
 cases n with
 | zero => cases hf
 | succ n =>
  simp only [whileC] at hf
  obtain ⟨c, hc, hk⟩ := bsome hf
  refine (body s c hc (fun r hr => ?_)).mono fun e σ' hq => ?_
  ·subst hr; exact Option.some.inj hk
  ·cases e with
   | normal =>
    obtain ⟨s', hs', hsub⟩ := hq
    subst hs'
    exact ⟨(n, s'), hk, by simp only; omega, hsub⟩
   | _ => exact hq
theorem AW.jn {J R : Type} (st : J → St) {c : Ctl J R} {x y : ICode} {Q : Post} {σ : St} (h : AW P G nt F x (thenQ (fun σ' => ∃ j, c = .next j ∧ Can G nt σ' (st j)) Q) σ) (k : ∀ j, c = .next j → AW P G nt F y Q (st j)) : AW P G nt F (.seq x y) Q σ := by
 refine AW.seq (h.mono fun e σ1 hq => ?_)
 cases e with
 | normal => obtain ⟨j, hj, hs⟩ := hq; exact AW.can hs (k j hj)
 | _ => exact hq
theorem AW.jnS {J : Type} (st : J → St) {c : J} {x y : ICode} {Q : Post} {σ : St} (h : AW P G nt F x (thenQ (fun σ' => Can G nt σ' (st c)) Q) σ) (k : AW P G nt F y Q (st c)) : AW P G nt F (.seq x y) Q σ := by
 refine AW.seq (h.mono fun e σ1 hq => ?_)
 cases e with
 | normal => exact AW.can hq k
 | _ => exact hq
theorem AW.sln {t : Nat} {es : Nat} {xs : List (List D)} {y : ICode} {Q : Post} {σ : St} (ht : look σ.env t = some (.d (.sl es xs))) (k : (xs.length : Int) ≤ 9223372036854775807 → AW P G nt F y Q σ) : AW P G nt F y Q σ := by
 intro code htr c a w hR
 obtain ⟨cv, h1, h2⟩ := hR.R.env t _ ht
 have : xs.length ≤ maxLen := by
  cases h2 with
  | d _ _ hd => cases hd with | sl es xs a c cv hc hb => omega
 exact k (by unfold maxLen at this; omega) code htr c a w hR
theorem AW.slh {r T off : Nat} {cs : List V} {es : Nat} {xs : List (List D)} {y : ICode} {Q : Post} {σ : St} (hr : look σ.heap r = some (.var T cs)) (hc : cs[off]? = some (.d (.sl es xs))) (k : (xs.length : Int) ≤ 9223372036854775807 → AW P G nt F y Q σ) : AW P G nt F y Q σ := by
 intro code htr c a w hR
 have hlt := (List.getElem?_eq_some_iff.1 hc).1
 have : xs.length ≤ maxLen := by
  rcases hR.R.h.pl _ _ hr with ⟨g, m, hf, cur, h1, h2, h3⟩ | ⟨_, hu⟩
  ·obtain ⟨cv, hcv⟩ : ∃ cv, cur[off]? = some cv := ⟨_, Array.getElem?_eq_getElem (by omega)⟩
   obtain ⟨h4, _⟩ := h3 off _ cv hc hcv
   cases h4 with
   | d _ _ hd => cases hd with | sl es xs a c cv hc hb => omega
  ·cases hu
 exact k (by unfold maxLen at this; omega) code htr c a w hR
end
end Go.Abs
