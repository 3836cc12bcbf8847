/- The framework: what a piece of code does to told states, part 6. Conditions: none. -/
import Derived.Test.YtonjadhpjkbhnaaDoorFwe
import Derived.CallsIn
import Derived.OrdersIn
import Derived.Below
import Derived.Laws.World
import Derived.Laws.Cells
import Derived.Laws.Entries
import Derived.Laws.CopyRow
import Derived.IntWalk
import Derived.RangeFuncRecord
import Derived.RangeFuncLeaves
import Derived.KernelRfl
import Derived.Maps.AppendAt
import Derived.Laws.MakeOwn
import Derived.Laws.StructEq
import Derived.ChangeKeysEq
import Derived.MapKept
import Derived.ProofKit
import Derived.OpenShut
import Derived.LaidMore
set_option linter.unusedVariables false
set_option linter.unusedSimpArgs false
namespace Go.Abs
def wk1 (es : Nat) : V → V
 | .d .nilSl => .d (.sl es [])
 | .fsl es' xs => .d (.sl es' xs)
 | v => v
theorem VRel.wk1 {c : Cx} {H : Hp} {U : Nat → Prop} {w : World} {v : V} {cv : Value} (h : VRel c H U w v cv) (es : Nat) : VRel c H U w (wk1 es v) cv := by
 unfold Go.Abs.wk1
 split
 ·cases h with
  | d _ _ hd => cases hd; exact .d _ _ (.sl es [] none 0 (fun _ _ => .nilFunc) (Nat.le_refl _) (Nat.zero_le _) (fun h => absurd h (by simp)) (fun i row h => by simp at h) (fun _ _ h => by cases h) (fun i j row x h => by simp at h))
 ·cases h with
  | fsl _ _ a h => exact .d _ _ h
 ·exact h
section
variable {P : Program} {nt : Nat} {G : Gl} {F : Fence}
theorem Can.wkE (t es : Nat) {v : V} {σ : St} (ht : look σ.env t = some v) : Can G nt σ { env := (t, wk1 es v) :: σ.env, heap := σ.heap, nx := σ.nx, fr := σ.fr, dfs := σ.dfs, base := σ.base } := by
 intro c a w hR
 have hR' : RelS G nt c { env := (t, Go.Abs.wk1 es v) :: σ.env, heap := σ.heap, nx := σ.nx, fr := σ.fr, dfs := σ.dfs, base := σ.base } a w := by
  refine ⟨⟨hR.R.nt, fun u x hx => ?_, hR.R.h⟩, hR.df, hR.base⟩
  simp only at hx
  rw [look_cons] at hx
  split at hx
  ·rename_i e; subst e; cases hx
   obtain ⟨cv, h1, h2⟩ := hR.R.env _ _ ht
   exact ⟨cv, h1, h2.wk1 es⟩
  ·exact hR.R.env u x hx
 exact ⟨c, hR', ⟨Ext.refl _ _ _, HB.refl _ _ _, rfl⟩⟩
theorem HStep.ofSet {c : Cx} {H : Hp} {U : Nat → Prop} {r T : Nat} {cs cs' : List V} (hr : H r = some (.var T cs)) : HStep c H U c (upd H r (.var T cs')) U where
 hU := fun _ h => h
 hy := rfl
 hA := fun _ h => h
 var := fun r0 T0 cs0 h0 => by
  by_cases e : r = r0
  ·subst e; rw [hr] at h0; cases h0; exact ⟨rfl, cs', upd_same _ _ _⟩
  ·exact ⟨rfl, cs0, (upd_other _ _ _ _ e).trans h0⟩
 row := fun r0 T0 es xs _ h0 => by
  by_cases e : r = r0
  ·subst e; rw [upd_same] at h0; cases h0
  ·rw [upd_other _ _ _ _ e] at h0; exact ⟨xs, h0, Nat.le_refl _, fun _ => rfl⟩
 mp := fun r0 es h0 => by
  by_cases e : r = r0
  ·subst e; rw [hr] at h0; cases h0
  ·exact ⟨rfl, es, (upd_other _ _ _ _ e).trans h0⟩
 dm := fun r0 h0 => by
  by_cases e : r = r0
  ·subst e; rw [hr] at h0; cases h0
  ·exact ⟨rfl, (upd_other _ _ _ _ e).trans h0⟩
theorem HRel.retell {c0 c : Cx} {H0 H : Hp} {U : Nat → Prop} {fr : Fr} {w : World} (h00 : HRel G c0 H0 U fr w) (h : HRel G c H U fr w) {r T : Nat} {cs cs' : List V} (hr0 : H0 r = some (.var T cs)) (hr : H r = some (.var T cs)) (hfm : c0.fm r = c.fm r) (hl : cs'.length = cs.length)
  (hc : ∀ (j : Nat) (x x' : V) (cv : Value), cs[j]? = some x → cs'[j]? = some x' → VRel c0 H0 U w x cv → VRel c H U w x' cv) : HRel G c (upd H r (.var T cs')) U fr w := by
 have hs : HStep c H U c (upd H r (.var T cs')) U := HStep.ofSet hr
 refine ⟨fun r0 b h0 => ?_, fun r0 b h0 => ?_, fun r0 r1 b0 b1 g m m' h0 h1 f0 f1 => ?_, fun r0 b g m h0 f0 => ?_, fun r0 b g m h0 f0 => ?_, h.AO, h.Alt, h.Olt, h.fr, h.gl⟩
 ·by_cases e : r = r0
  ·subst e; exact h.lt _ _ hr
  ·rw [upd_other _ _ _ _ e] at h0; exact h.lt _ _ h0
 ·by_cases e : r = r0
  ·subst e
   rw [upd_same] at h0; cases h0
   rcases h00.pl _ _ hr0 with ⟨g, m, hf, cur, h1, h2, h3⟩ | ⟨_, hu⟩
   ·refine .inl ⟨g, m, hfm.symm.trans hf, cur, h1, by omega, fun j x cv hx hcv => ?_⟩
    have hlt := (List.getElem?_eq_some_iff.1 hx).1
    obtain ⟨h4, h5⟩ := h3 j _ cv (List.getElem?_eq_getElem (by omega)) hcv
    exact ⟨(hc j _ x cv (List.getElem?_eq_getElem (by omega)) hx h4).mono (fun _ _ => rfl) hs, h5⟩
   ·cases hu
  ·rw [upd_other _ _ _ _ e] at h0
   exact (h.pl _ _ h0).imp (fun ⟨g, m, hf, hB⟩ => ⟨g, m, hf, hB.mono rfl (fun _ _ => rfl) hs⟩) id
 all_goals
  have key : ∀ r0 b, upd H r (.var T cs') r0 = some b → ∃ b', H r0 = some b' := fun r0 b h0 => by
   by_cases e : r = r0
   ·subst e; exact ⟨_, hr⟩
   ·rw [upd_other _ _ _ _ e] at h0; exact ⟨_, h0⟩
 ·obtain ⟨_, h2⟩ := key _ _ h0
  obtain ⟨_, h3⟩ := key _ _ h1
  exact h.inj _ _ _ _ _ _ _ h2 h3 f0 f1
 ·obtain ⟨_, h2⟩ := key _ _ h0
  exact h.nA _ _ _ _ h2 f0
 ·obtain ⟨_, h2⟩ := key _ _ h0
  exact h.nO _ _ _ _ h2 f0
theorem Can.wkH (r off es : Nat) {T : Nat} {cs : List V} {v : V} {σ : St} (hr : look σ.heap r = some (.var T cs)) (hc : cs[off]? = some v)
  : Can G nt σ { env := σ.env, heap := (r, .var T (cs.set off (wk1 es v))) :: σ.heap, nx := σ.nx, fr := σ.fr, dfs := σ.dfs, base := σ.base } := by
 intro c a w hR
 have hs : HStep c (look σ.heap) (fun r => r < σ.nx) c (look ((r, .var T (cs.set off (Go.Abs.wk1 es v))) :: σ.heap)) (fun r => r < σ.nx) := by rw [look_upd]; exact HStep.ofSet hr
 have hR' : RelS G nt c { env := σ.env, heap := (r, .var T (cs.set off (Go.Abs.wk1 es v))) :: σ.heap, nx := σ.nx, fr := σ.fr, dfs := σ.dfs, base := σ.base } a w := by
  refine ⟨⟨hR.R.nt, fun u x hx => ?_, ?_⟩, hR.df.mono hs, hR.base⟩
  ·obtain ⟨cv, h1, h2⟩ := hR.R.env _ _ hx
   exact ⟨cv, h1, h2.mono (fun _ _ => rfl) hs⟩
  ·simp only
   rw [look_upd]
   refine HRel.retell hR.R.h hR.R.h hr hr rfl (by simp) fun j x x' cv hx hx' hv => ?_
   rw [List.getElem?_set] at hx'
   split at hx'
   ·rename_i e; subst e
    split at hx' <;> cases hx'
    rw [hc] at hx; cases hx
    exact hv.wk1 es
   ·rw [hx] at hx'; cases hx'; exact hv
 have hW : Went c σ w c { env := σ.env, heap := (r, .var T (cs.set off (Go.Abs.wk1 es v))) :: σ.heap, nx := σ.nx, fr := σ.fr, dfs := σ.dfs, base := σ.base } w := by
  refine ⟨⟨rfl, rfl, rfl, Nat.le_refl _, rfl, fun _ _ _ _ => rfl, fun r0 b g m h0 f0 => ?_, fun _ h => h, fun _ h => .inl h, fun _ h => .inr (.inl h)⟩, HB.of hR.base hs, rfl⟩
  simp only at h0
  rw [look_cons] at h0
  split at h0
  ·rename_i e; subst e; exact .inr (.inr ⟨r, _, m, hr, f0⟩)
  ·exact .inr (.inr ⟨r0, b, m, h0, f0⟩)
 exact ⟨c, hR', hW⟩
theorem Can.thawT (t Te es : Nat) {σ : St} (ht : look σ.env t = some (.d .nilSl)) (hes : Nat.blt 0 es = true)
  : Can G nt σ { env := (t, .own σ.nx 0) :: σ.env, heap := (σ.nx, .row Te es []) :: σ.heap, nx := σ.nx + 1, fr := σ.fr, dfs := σ.dfs, base := σ.base } := by
 intro c a w hR
 obtain ⟨u1, u2, u3⟩ := hR.R.h.unplaced σ.nx Te es (fun h => Nat.lt_irrefl _ h) (Nat.le_of_ble_eq_true hes)
 have hus : usOf [σ.nx] (fun r => r < σ.nx) = fun r => r < σ.nx + 1 := by
  funext r; simp only [usOf, List.mem_singleton, eq_iff_iff]; omega
 rw [hus] at u1 u2
 have hH : upd (look σ.heap) σ.nx (.row Te es []) = look ((σ.nx, Blk.row Te es []) :: σ.heap) := (look_upd _ _ _).symm
 rw [hH] at u1 u2 u3
 have hR' : RelS G nt (c.un σ.nx) { env := (t, .own σ.nx 0) :: σ.env, heap := (σ.nx, .row Te es []) :: σ.heap, nx := σ.nx + 1, fr := σ.fr, dfs := σ.dfs, base := σ.base } a w := by
  refine ⟨⟨hR.R.nt, fun u x hx => ?_, u2⟩, hR.df.mono u1, Nat.le_trans hR.base (Nat.le_succ _)⟩
  simp only at hx
  rw [look_cons] at hx
  split at hx
  ·rename_i e; subst e; cases hx
   obtain ⟨cv, h1, h2⟩ := hR.R.env _ _ ht
   cases h2 with
   | d _ _ hd =>
    cases hd
    exact ⟨_, h1, .own σ.nx 0 none 0 (Nat.lt_succ_self _) (Nat.zero_le _) (fun _ _ _ _ => Nat.zero_le _) (fun T' es' xs' h1 h2 => .inr ⟨by simp [Cx.un], rfl, rfl⟩)⟩
  ·obtain ⟨cv, h1, h2⟩ := hR.R.env _ _ hx
   exact ⟨cv, h1, h2.mono (fun _ _ => rfl) u1⟩
 have hW : Went c σ w (c.un σ.nx) { env := (t, .own σ.nx 0) :: σ.env, heap := (σ.nx, .row Te es []) :: σ.heap, nx := σ.nx + 1, fr := σ.fr, dfs := σ.dfs, base := σ.base } w := ⟨u3, HB.of hR.base u1, rfl⟩
 exact ⟨_, hR', hW⟩
theorem Can.thawH (r off T Te es : Nat) {cs : List V} {σ : St} (hr : look σ.heap r = some (.var T cs)) (hc : cs[off]? = some (.d .nilSl)) (hes : Nat.blt 0 es = true)
  : Can G nt σ { env := σ.env, heap := (r, .var T (cs.set off (.own σ.nx 0))) :: (σ.nx, .row Te es []) :: σ.heap, nx := σ.nx + 1, fr := σ.fr, dfs := σ.dfs, base := σ.base } := by
 intro c a w hR
 obtain ⟨u1, u2, u3⟩ := hR.R.h.unplaced σ.nx Te es (fun h => Nat.lt_irrefl _ h) (Nat.le_of_ble_eq_true hes)
 have hus : usOf [σ.nx] (fun r => r < σ.nx) = fun r => r < σ.nx + 1 := by
  funext r; simp only [usOf, List.mem_singleton, eq_iff_iff]; omega
 rw [hus] at u1 u2
 have hne : σ.nx ≠ r := fun e => by have := hR.R.h.lt _ _ hr; omega
 have hr1 : upd (look σ.heap) σ.nx (.row Te es []) r = some (.var T cs) := (upd_other _ _ _ _ hne).trans hr
 obtain ⟨g0, m0, hf0, hB0⟩ := (u2.pl r _ hr1).resolve_right (fun hn => by obtain ⟨_, hu⟩ := hn; cases hu)
 have hs2 : HStep (c.un σ.nx) (upd (look σ.heap) σ.nx (.row Te es [])) (fun r => r < σ.nx + 1) ((c.un σ.nx).put r g0 m0) (upd (upd (look σ.heap) σ.nx (.row Te es [])) r (.var T (cs.set off (.own σ.nx 0)))) (fun r => r < σ.nx + 1) := HStep.setVar hr1 hf0
 have hB : BRel ((c.un σ.nx).put r g0 m0) (upd (upd (look σ.heap) σ.nx (.row Te es [])) r (.var T (cs.set off (.own σ.nx 0)))) (fun r => r < σ.nx + 1) w g0 m0 (.var T (cs.set off (.own σ.nx 0))) := by
  obtain ⟨cur, p1, p2, p3⟩ := hB0
  refine ⟨cur, p1, by simpa using p2, fun j x cv hx hcv => ?_⟩
  rw [List.getElem?_set] at hx
  by_cases e : off = j
  ·subst e
   rw [if_pos rfl] at hx
   split at hx <;> cases hx
   obtain ⟨q1, q2⟩ := p3 off _ cv hc hcv
   cases q1 with
   | d _ _ hd =>
    cases hd
    refine ⟨.own σ.nx 0 none 0 (by omega) (Nat.zero_le _) (fun _ _ _ _ => Nat.zero_le _) (fun T' es' xs' h1 h2 => .inr ⟨?_, rfl, rfl⟩), q2⟩
    show (upd (c.un σ.nx).fm r (g0, m0)) σ.nx = none
    rw [upd_other _ _ _ _ (Ne.symm hne)]; simp [Cx.un]
  ·rw [if_neg e] at hx
   obtain ⟨q1, q2⟩ := p3 j x cv hx hcv
   exact ⟨q1.mono (fun _ _ => rfl) hs2, q2⟩
 have hp := u2.put (w' := w) r g0 m0 (.var T (cs.set off (.own σ.nx 0))) hs2 rfl rfl rfl (Nat.le_refl _) (fun _ _ _ => rfl) (.inr ⟨_, m0, hr1, hf0⟩) (u2.lt _ _ hr1) hB
 have hH : upd (upd (look σ.heap) σ.nx (.row Te es [])) r (.var T (cs.set off (.own σ.nx 0))) = look ((r, Blk.var T (cs.set off (.own σ.nx 0))) :: (σ.nx, Blk.row Te es []) :: σ.heap) := by rw [look_upd, look_upd]
 rw [hH] at hp hs2
 have hst : HStep c (look σ.heap) (fun r => r < σ.nx) ((c.un σ.nx).put r g0 m0) (look ((r, Blk.var T (cs.set off (.own σ.nx 0))) :: (σ.nx, Blk.row Te es []) :: σ.heap)) (fun r => r < σ.nx + 1) := by
  refine ⟨fun r hr => hs2.hU r (u1.hU r hr), rfl, fun _ h => h, fun q T' cs' hq => ?_, fun q T' es' xs' hu hq => ?_, fun q es' hq => ?_, fun q hq => ?_⟩
  ·obtain ⟨a1, c1, a2⟩ := u1.var q T' cs' hq
   obtain ⟨a3, c2, a4⟩ := hs2.var q T' c1 a2
   exact ⟨a3.trans a1, c2, a4⟩
  ·obtain ⟨y1, a1, a2, a3⟩ := hs2.row q T' es' xs' (u1.hU q hu) hq
   obtain ⟨y2, b1, b2, b3⟩ := u1.row q T' es' y1 hu a1
   exact ⟨y2, b1, by omega, fun e => (a3 (by omega)).trans (b3 (by omega))⟩
  ·obtain ⟨a1, c1, a2⟩ := u1.mp q es' hq
   obtain ⟨a3, c2, a4⟩ := hs2.mp q c1 a2
   exact ⟨a3.trans a1, c2, a4⟩
  ·obtain ⟨a1, a2⟩ := u1.dm q hq
   obtain ⟨a3, a4⟩ := hs2.dm q a2
   exact ⟨a3.trans a1, a4⟩
 have hR' : RelS G nt ((c.un σ.nx).put r g0 m0) { env := σ.env, heap := (r, .var T (cs.set off (.own σ.nx 0))) :: (σ.nx, .row Te es []) :: σ.heap, nx := σ.nx + 1, fr := σ.fr, dfs := σ.dfs, base := σ.base } a w := by
  refine ⟨⟨hR.R.nt, fun t v hv => ?_, hp.1⟩, hR.df.mono hst, Nat.le_trans hR.base (Nat.le_succ _)⟩
  obtain ⟨cv, h1, h2⟩ := hR.R.env t v hv
  exact ⟨cv, h1, h2.mono (fun _ _ => rfl) hst⟩
 have hW : Went c σ w ((c.un σ.nx).put r g0 m0) { env := σ.env, heap := (r, .var T (cs.set off (.own σ.nx 0))) :: (σ.nx, .row Te es []) :: σ.heap, nx := σ.nx + 1, fr := σ.fr, dfs := σ.dfs, base := σ.base } w := ⟨u3.trans hp.2, HB.of hR.base hst, rfl⟩
 exact ⟨_, hR', hW⟩
def Cx.fz (c : Cx) (r : Nat) : Cx := { fm := fun n => if r = n then none else c.fm n, A := fun g => c.A g ∨ ∃ m, c.fm r = some (g, m), O := c.O, y := c.y }
theorem HStep.fz (c : Cx) (H : Hp) (U : Nat → Prop) {r T es : Nat} {xs : List (List D)} (hr : H r = some (.row T es xs)) : HStep c H U (c.fz r) (upd H r .dead) U where
 hU := fun _ h => h
 hy := rfl
 hA := fun _ h => .inl h
 var := fun r0 T0 cs h0 => by
  by_cases e : r = r0
  ·subst e; rw [hr] at h0; cases h0
  ·exact ⟨by simp [Cx.fz, e], cs, (upd_other _ _ _ _ e).trans h0⟩
 row := fun r0 T0 es0 xs0 _ h0 => by
  by_cases e : r = r0
  ·subst e; rw [upd_same] at h0; cases h0
  ·rw [upd_other _ _ _ _ e] at h0; exact ⟨xs0, h0, Nat.le_refl _, fun _ => by simp [Cx.fz, e]⟩
 mp := fun r0 es0 h0 => by
  by_cases e : r = r0
  ·subst e; rw [hr] at h0; cases h0
  ·exact ⟨by simp [Cx.fz, e], es0, (upd_other _ _ _ _ e).trans h0⟩
 dm := fun r0 h0 => by
  by_cases e : r = r0
  ·subst e; rw [hr] at h0; cases h0
  ·exact ⟨by simp [Cx.fz, e], (upd_other _ _ _ _ e).trans h0⟩
theorem HRel.fz {c : Cx} {H : Hp} {U : Nat → Prop} {fr : Fr} {w : World} (h : HRel G c H U fr w) {r T es : Nat} {xs : List (List D)} (hr : H r = some (.row T es xs)) : HRel G (c.fz r) (upd H r .dead) U fr w := by
 have hs := HStep.fz c H U hr
 have old : ∀ r0 b, r ≠ r0 → upd H r .dead r0 = some b → H r0 = some b := fun r0 b e h0 => by rwa [upd_other _ _ _ _ e] at h0
 have ne : ∀ r0 g m, (c.fz r).fm r0 = some (g, m) → r ≠ r0 ∧ c.fm r0 = some (g, m) := fun r0 g m h0 => by
  by_cases e : r = r0
  ·simp [Cx.fz, e] at h0
  ·exact ⟨e, by simpa [Cx.fz, e] using h0⟩
 refine ⟨fun r0 b h0 => ?_, fun r0 b h0 => ?_, fun r0 r1 b0 b1 g m m' h0 h1 f0 f1 => ?_, fun r0 b g m h0 f0 => ?_, fun r0 b g m h0 f0 => ?_, fun g hg => ?_, fun g hg => ?_, h.Olt, fr.mono _ _ _ _ _ _ h.fr (fun _ h => .inl h) (fun _ _ => rfl), fun g row hg => ?_⟩
 ·by_cases e : r = r0
  ·subst e; exact h.lt _ _ hr
  ·exact h.lt _ _ (old _ _ e h0)
 ·by_cases e : r = r0
  ·subst e; rw [upd_same] at h0; cases h0; exact .inr ⟨by simp [Cx.fz], .dead⟩
  ·rcases h.pl _ _ (old _ _ e h0) with ⟨g, m, hf, hB⟩ | ⟨hf, hu⟩
   ·exact .inl ⟨g, m, by simpa [Cx.fz, e] using hf, hB.mono rfl (fun _ _ => rfl) hs⟩
   ·exact .inr ⟨by simpa [Cx.fz, e] using hf, hu⟩
 ·obtain ⟨e0, f0⟩ := ne _ _ _ f0
  obtain ⟨e1, f1⟩ := ne _ _ _ f1
  exact h.inj _ _ _ _ _ _ _ (old _ _ e0 h0) (old _ _ e1 h1) f0 f1
 ·obtain ⟨e0, f0⟩ := ne _ _ _ f0
  rintro (ha | ⟨m', hm⟩)
  ·exact h.nA _ _ _ _ (old _ _ e0 h0) f0 ha
  ·exact e0 (h.inj _ _ _ _ _ _ _ hr (old _ _ e0 h0) hm f0)
 ·obtain ⟨e0, f0⟩ := ne _ _ _ f0
  exact h.nO _ _ _ _ (old _ _ e0 h0) f0
 ·rcases hg with ha | ⟨m', hm⟩
  ·exact h.AO g ha
  ·exact h.nO _ _ _ _ hr hm
 ·rcases hg with ha | ⟨m', hm⟩
  ·exact h.Alt g ha
  ·rcases h.pl _ _ hr with ⟨g0, m0, hf, cur, hc, _⟩ | ⟨hf, _⟩
   ·rw [hm] at hf; cases hf; exact (Array.getElem?_eq_some_iff.1 hc).1
   ·rw [hm] at hf; cases hf
 ·obtain ⟨ha, hc⟩ := h.gl g row hg
  exact ⟨.inl ha, fun j x hx => let ⟨cv, h1, h2⟩ := hc j x hx; ⟨cv, h1, h2.mono (fun _ h => .inl h) (fun _ _ => rfl)⟩⟩
theorem VRel.fz {c : Cx} {H : Hp} {U : Nat → Prop} {fr : Fr} {w : World} (h : HRel G c H U fr w) {r n T es : Nat} {xs : List (List D)} (hr : H r = some (.row T es xs)) (hl : xs.length = n) {cv : Value} (hv : VRel c H U w (.own r n) cv) : VRel (c.fz r) (upd H r .dead) U w (.d (.sl es xs)) cv := by
 cases hv with
 | own _ _ a m hu hb hn hp => exact .d _ _ (row_data h hr hl (hp T es xs hr hl) (fun _ h => .inl h) (fun g hf => .inr ⟨m, hf⟩))
theorem Can.fzCore {σ σ' : St} {r T es : Nat} {xs : List (List D)} (hr : look σ.heap r = some (.row T es xs)) (hsame : σ'.nx = σ.nx ∧ σ'.fr = σ.fr ∧ σ'.dfs = σ.dfs ∧ σ'.base = σ.base)
  (hE : ∀ (c : Cx) (a : Act) (w : World), RelS G nt c σ a w → ∀ t v, look σ'.env t = some v → ∃ cv, a.tmps[t]? = some cv ∧ VRel (c.fz r) (look σ'.heap) (fun r => r < σ.nx) w v cv)
  (hH : ∀ (c : Cx) (w : World), HRel G c (look σ.heap) (fun r => r < σ.nx) σ.fr w → HRel G (c.fz r) (look σ'.heap) (fun r => r < σ.nx) σ.fr w ∧ HStep c (look σ.heap) (fun r => r < σ.nx) (c.fz r) (look σ'.heap) (fun r => r < σ.nx))
  (hk : ∀ r0 b, look σ'.heap r0 = some b → ∃ b', look σ.heap r0 = some b')
  : Can G nt σ σ' := by
 intro c a w hR
 obtain ⟨e1, e2, e3, e4⟩ := hsame
 obtain ⟨h1, hs⟩ := hH c w hR.R.h
 have hR' : RelS G nt (c.fz r) σ' a w := by
  refine ⟨⟨hR.R.nt, ?_, ?_⟩, ?_, ?_⟩
  ·rw [e1]; exact hE c a w hR
  ·rw [e1, e2]; exact h1
  ·rw [e3]; exact hR.df.mono hs
  ·rw [e4, e1]; exact hR.base
 have hW : Went c σ w (c.fz r) σ' w := by
  refine ⟨⟨rfl, rfl, rfl, Nat.le_refl _, rfl, fun _ _ _ _ => rfl, fun r0 b g m h0 f0 => ?_, fun _ h => .inl h, fun g hg => ?_, fun _ h => .inr (.inl h)⟩, HB.of hR.base hs, e4⟩
  ·obtain ⟨b', hb'⟩ := hk r0 b h0
   by_cases e : r = r0
   ·simp [Cx.fz, e] at f0
   ·exact .inr (.inr ⟨r0, b', m, hb', by simpa [Cx.fz, e] using f0⟩)
  ·rcases hg with h | ⟨m, hm⟩
   ·exact .inl h
   ·exact .inr (.inr (.inr ⟨r, _, m, hr, hm⟩))
 exact ⟨_, hR', hW⟩
theorem Can.fzE (t r : Nat) {n T es : Nat} {xs : List (List D)} {σ : St} (ht : look σ.env t = some (.own r n)) (hr : look σ.heap r = some (.row T es xs)) (hl : xs.length = n)
  : Can G nt σ { env := (t, .d (.sl es xs)) :: σ.env, heap := (r, .dead) :: σ.heap, nx := σ.nx, fr := σ.fr, dfs := σ.dfs, base := σ.base } := by
 refine Can.fzCore (σ' := { env := (t, .d (.sl es xs)) :: σ.env, heap := (r, .dead) :: σ.heap, nx := σ.nx, fr := σ.fr, dfs := σ.dfs, base := σ.base }) hr ⟨rfl, rfl, rfl, rfl⟩ (fun c a w hR u v hv => ?_) (fun c w h => ?_) (fun r0 b h0 => ?_)
 ·simp only at hv ⊢
  rw [look_upd]
  rw [look_cons] at hv
  split at hv
  ·rename_i e; subst e; cases hv
   obtain ⟨cv, h1, h2⟩ := hR.R.env _ _ ht
   exact ⟨cv, h1, h2.fz hR.R.h hr hl⟩
  ·obtain ⟨cv, h1, h2⟩ := hR.R.env _ _ hv
   exact ⟨cv, h1, h2.mono (fun _ _ => rfl) (HStep.fz c _ _ hr)⟩
 ·simp only; rw [look_upd]; exact ⟨h.fz hr, HStep.fz c _ _ hr⟩
 ·simp only at h0
  rw [look_cons] at h0
  split at h0
  ·rename_i e; subst e; exact ⟨_, hr⟩
  ·exact ⟨_, h0⟩
end
end Go.Abs
namespace Go.Abs
def appL {α : Type} (bytes : Nat) (xs ys : List α) : Option (List α) := bif roomB (xs ++ ys).length bytes then some (xs ++ ys) else none
theorem appL_ok {α : Type} {b : Nat} {xs ys l : List α} (h : appL b xs ys = some l) : xs ++ ys = l ∧ roomB l.length b = true := by
 unfold appL at h
 cases hr : roomB (xs ++ ys).length b with
 | true => rw [hr] at h; cases h; exact ⟨rfl, hr⟩
 | false => rw [hr] at h; cases h
theorem apz {α β : Type} {b : Nat} {xs ys l : List α} (h : appL b xs ys = some l) (f : α → β) : xs.map f ++ ys.map f = l.map f := by rw [← List.map_append, (appL_ok h).1]
theorem apr {α β : Type} {b : Nat} {xs ys l : List α} (h : appL b xs ys = some l) (f : α → β) : (l.map f).length * b ≤ 140737488355328 := by
 rw [List.length_map]; exact Nat.le_of_ble_eq_true (appL_ok h).2
def slcL {α : Type} (xs : List α) (lo hi : Int) : Option (List α) := bif decide (0 ≤ lo) && (decide (lo ≤ hi) && decide (hi ≤ xs.length)) then some ((xs.drop lo.toNat).take (hi.toNat - lo.toNat)) else none
theorem slcL_ok {α : Type} {xs l : List α} {lo hi : Int} (h : slcL xs lo hi = some l) : 0 ≤ lo ∧ lo ≤ hi ∧ hi ≤ xs.length ∧ (xs.drop lo.toNat).take (hi.toNat - lo.toNat) = l := by
 unfold slcL at h
 cases hr : decide (0 ≤ lo) && (decide (lo ≤ hi) && decide (hi ≤ xs.length)) with
 | true =>
  rw [hr] at h; cases h
  simp only [Bool.and_eq_true, decide_eq_true_eq] at hr
  exact ⟨hr.1, hr.2.1, hr.2.2, rfl⟩
 | false => rw [hr] at h; cases h
theorem slz {α β : Type} {xs l : List α} {lo hi : Int} (h : slcL xs lo hi = some l) (f : α → β) : ((xs.map f).drop lo.toNat).take (hi.toNat - lo.toNat) = l.map f := by
 rw [← List.map_drop, ← List.map_take, (slcL_ok h).2.2.2]
def setL {α : Type} (xs : List α) (i : Int) (x : α) : List α := xs.set i.toNat x
section
variable {P : Program} {G : Gl} {nt : Nat} {F : Fence}
theorem s_slc3n {es : Nat} {x hi mx : Opd} {v : V} {xs : List (List D)} {kh km : IntKind} {h m : Int} {fr : Fr} (hv : DSl es xs v) (h1 : 0 ≤ h) (h2 : h ≤ xs.length) (hm : m = h) :
  LStp P G nt (.slc es x none (some hi) (some mx)) [(x, v), (hi, .d (.int kh h)), (mx, .d (.int km m))] [] (.fsl es ((xs.drop 0).take (h.toNat - 0))) ⟨[], []⟩ fr fr := by
 subst hm
 refine .pure fun U E H o c ac w ht hR hE hH => ?_
 generalize hop : o.op = op at ht
 generalize hlo : (none : Option Opd) = lo' at ht
 generalize hhi : some hi = hi' at ht
 generalize hmx : some mx = mx' at ht
 cases ht with
 | @slc t e j xo lo0 hi0 mx0 _ _ _ _ ht hj hx hl hh hm =>
  have e1 := ev_ok hR hx hE.1
  obtain ⟨a, cp, hav, hcp, hd⟩ := hv.rel e1
  subst hlo hhi hmx
  have get : ∀ {y : Option Operand} {z : Opd}, trOo y = some (some z) → ∃ y', y = some y' ∧ trO y' = some z := fun {y z} hy => by
   cases y with
   | none => simp [trOo] at hy
   | some y' => simp only [trOo] at hy; split at hy <;> cases hy; exact ⟨y', rfl, by assumption⟩
  have hl1 : lo0 = none := by
   cases lo0 with
   | none => rfl
   | some y' => simp only [trOo] at hl; split at hl <;> cases hl
  subst hl1
  obtain ⟨hi1, rfl, hh1⟩ := get hh
  obtain ⟨mx1, rfl, hm1⟩ := get hm
  have eh := (ev_ok hR hh1 hE.2.1).int_inv
  have em := (ev_ok hR hm1 hE.2.2.1).int_inv
  have hb := sub_data hd (l := 0) (h := m.toNat) (m := m.toNat) (by omega) (Nat.le_refl _) (by omega) (by omega)
  refine ⟨by simp, .slice (if m.toNat = 0 then a else a.map (·.add (0 * j.size))) (m.toNat - 0) (m.toNat - 0), ?_, ?_⟩
  ·have hmc : m ≤ (cp : Int) := by omega
   have hmm : m ≤ (m.toNat : Int) := by omega
   simp only [execOp, hop, Instr.sliceAt, run_underlying ht, Sem.run_bind, Result.andThen_ok, hav, eh, em, Option.map_some, Option.map_none, Instr.slice, Instr.sliceBounds, run_bound h1 hmc, run_bound h1 hmm, run_sizeOf hj, Sem.run_pure]
  ·have hlen : ((xs.drop 0).take (m.toNat - 0)).length = m.toNat - 0 := by simp; omega
   have := VRel.fsl (c := c) (H := H) (U := U) (w := w) j.size ((xs.drop 0).take (m.toNat - 0)) (if m.toNat = 0 then a else a.map (·.add (0 * j.size))) (by rw [hlen]; exact hb)
   rw [hlen] at this; exact this
theorem s_slcH {es : Nat} {x hi : Opd} {v : V} {xs : List (List D)} {kh : IntKind} {h : Int} {fr : Fr} (hv : DSl es xs v) (h1 : 0 ≤ h) (h2 : h ≤ xs.length) :
  LStp P G nt (.slc es x none (some hi) none) [(x, v), (hi, .d (.int kh h))] [] (.d (.sl es ((xs.drop 0).take (h.toNat - 0)))) ⟨[], []⟩ fr fr := by
 refine .pure fun U E H o c ac w ht hR hE hH => ?_
 generalize hop : o.op = op at ht
 generalize hlo : (none : Option Opd) = lo' at ht
 generalize hhi : some hi = hi' at ht
 generalize hmx : (none : Option Opd) = mx' at ht
 cases ht with
 | @slc t e j xo lo0 hi0 mx0 _ _ _ _ ht hj hx hl hh hm =>
  have e1 := ev_ok hR hx hE.1
  obtain ⟨a, cp, hav, hcp, hd⟩ := hv.rel e1
  subst hlo hhi hmx
  have get : ∀ {y : Option Operand} {z : Opd}, trOo y = some (some z) → ∃ y', y = some y' ∧ trO y' = some z := fun {y z} hy => by
   cases y with
   | none => simp [trOo] at hy
   | some y' => simp only [trOo] at hy; split at hy <;> cases hy; exact ⟨y', rfl, by assumption⟩
  have hl1 : lo0 = none := by
   cases lo0 with
   | none => rfl
   | some y' => simp only [trOo] at hl; split at hl <;> cases hl
  subst hl1
  obtain ⟨hi1, rfl, hh1⟩ := get hh
  have hm1 : mx0 = none := by
   cases mx0 with
   | none => rfl
   | some y' => simp only [trOo] at hm; split at hm <;> cases hm
  subst hm1
  have eh := (ev_ok hR hh1 hE.2.1).int_inv
  have hb := sub_data hd (l := 0) (h := h.toNat) (m := cp) (by omega) (by omega) (Nat.le_refl _) (by omega)
  refine ⟨by simp, .slice (if cp = 0 then a else a.map (·.add (0 * j.size))) (h.toNat - 0) (cp - 0), ?_, ?_⟩
  ·have hmc : h ≤ (cp : Int) := by omega
   simp only [execOp, hop, Instr.sliceAt, run_underlying ht, Sem.run_bind, Result.andThen_ok, hav, eh, Option.map_some, Option.map_none, Instr.slice, Instr.sliceBounds, run_bound h1 hmc, run_sizeOf hj, Sem.run_pure]
  ·exact .d _ _ hb
end
section
variable {P : Program} {G : Gl} {nt : Nat} {F : Fence} {K : St → List SD → Prop} {rest : List IOper} {σ : St} {sds : List SD} {g : Option (Nat × Bool)} {aft : List Nat}
theorem r_apO {t T T' es bytes : Nat} {s x : Opd} {r n q m : Nat} {xs ys zs : List (List D)} (hg : Wants σ g) (hs : ev G (look σ.env) s = some (.own r n)) (hx : ev G (look σ.env) x = some (.own q m)) (hr : look σ.heap r = some (.row T es xs)) (hq : look σ.heap q = some (.row T' es ys)) (hn : xs.length = n) (hm : ys.length = m) (hz : xs ++ ys = zs) (hb : zs.length * bytes ≤ 140737488355328)
  (k : RunC P G nt K rest ((σ.tn r (.row T es zs)).put (some t) (.own r zs.length)) (sds ++ [sdOf g [(s, .own r n), (x, .own q m)] [(r, .row T es xs), (q, .row T' es ys)] ⟨[(r, .row T es zs)], []⟩])) : RunC P G nt K (⟨some t, g, .app T es bytes s x, aft⟩ :: rest) σ sds := by
 subst hz
 rw [List.length_append] at k hb
 exact r_appO hg hs hx hr hq hn hm hb k
theorem r_apF {t T T' es bytes : Nat} {s x : Opd} {q m : Nat} {xs ys zs : List (List D)} (hg : Wants σ g) (hs : ev G (look σ.env) s = some (.fsl es xs)) (hx : ev G (look σ.env) x = some (.own q m)) (hq : look σ.heap q = some (.row T' es ys)) (hm : ys.length = m) (hy : ys ≠ []) (hz : xs ++ ys = zs) (hb : zs.length * bytes ≤ 140737488355328)
  (k : RunC P G nt K rest (σ.nw t (.own σ.nx zs.length) (.row T es zs)) (sds ++ [sdOf g [(s, .fsl es xs), (x, .own q m)] [(q, .row T' es ys)] ⟨[(σ.nx, .row T es zs)], [σ.nx]⟩])) : RunC P G nt K (⟨some t, g, .app T es bytes s x, aft⟩ :: rest) σ sds := by
 subst hz
 rw [List.length_append] at k hb
 exact r_appF hg hs hx hq hm hy hb k
theorem r_slN {d : Option Nat} {es : Nat} {x hi mx : Opd} {v : V} {xs zs : List (List D)} {kh km : IntKind} {h m : Int} (hg : Wants σ g) (hx : ev G (look σ.env) x = some v) (hhi : ev G (look σ.env) hi = some (.d (.int kh h))) (hmx : ev G (look σ.env) mx = some (.d (.int km m))) (hv : DSl es xs v) (h1 : 0 ≤ h) (h2 : h ≤ xs.length) (hm : m = h)
  (hz : (xs.drop (0 : Int).toNat).take (h.toNat - (0 : Int).toNat) = zs) (k : RunC P G nt K rest (σ.put d (.fsl es zs)) (sds ++ [sdOf g [(x, v), (hi, .d (.int kh h)), (mx, .d (.int km m))] [] ⟨[], []⟩])) : RunC P G nt K (⟨d, g, .slc es x none (some hi) (some mx), aft⟩ :: rest) σ sds := by
 subst hz
 exact .val (s_slc3n hv h1 h2 hm) hg ⟨hx, hhi, hmx, trivial⟩ trivial k
theorem r_idx {d : Option Nat} {n : Nat} {x i : Opd} {cs : List V} {u : V} {k0 : IntKind} {p : Int} (hg : Wants σ g) (hx : ev G (look σ.env) x = some (.agg cs)) (hi : ev G (look σ.env) i = some (.d (.int k0 p))) (h0 : 0 ≤ p) (hn : p.toNat < n) (hu : cs[0 + p.toNat * 1]? = some u)
  (k : RunC P G nt K rest (σ.put d u) (sds ++ [sdOf g [(x, .agg cs), (i, .d (.int k0 p))] [] ⟨[], []⟩])) : RunC P G nt K (⟨d, g, .idx n x i, aft⟩ :: rest) σ sds :=
  .val (s_idx h0 (by omega) (by rw [Nat.zero_add, Nat.mul_one] at hu; exact hu)) hg ⟨hx, hi, trivial⟩ trivial k
theorem r_slH {d : Option Nat} {es : Nat} {x hi : Opd} {v : V} {xs zs : List (List D)} {kh : IntKind} {h : Int} (hg : Wants σ g) (hx : ev G (look σ.env) x = some v) (hhi : ev G (look σ.env) hi = some (.d (.int kh h))) (hv : DSl es xs v) (h1 : 0 ≤ h) (h2 : h ≤ xs.length)
  (hz : (xs.drop (0 : Int).toNat).take (h.toNat - (0 : Int).toNat) = zs) (k : RunC P G nt K rest (σ.put d (.d (.sl es zs))) (sds ++ [sdOf g [(x, v), (hi, .d (.int kh h))] [] ⟨[], []⟩])) : RunC P G nt K (⟨d, g, .slc es x none (some hi) none, aft⟩ :: rest) σ sds := by
 subst hz
 exact .val (s_slcH hv h1 h2) hg ⟨hx, hhi, trivial⟩ trivial k
theorem lenset {α β : Type} {f : α → β} {xs : List α} {i : Int} {x : α} : (List.map f xs).length = (List.map f (setL xs i x)).length := by
 unfold setL; rw [List.length_map, List.length_map, List.length_set]
theorem r_stX {sz : Nat} {x y : Opd} {r off T : Nat} {cs cs' vs : List V} {u : V} (hg : Wants σ g) (hx : ev G (look σ.env) x = some (.ptr r off)) (hy : ev G (look σ.env) y = some u) (hr : look σ.heap r = some (.var T cs)) (hu : cellsOf u = some vs)
  (hsz : Nat.beq vs.length sz = true) (ho : off + sz ≤ cs.length) (hz : spl cs off vs = cs') (k : RunC P G nt K rest (σ.tn r (.var T cs')) (sds ++ [sdOf g [(x, .ptr r off), (y, u)] [(r, .var T cs)] ⟨[(r, .var T cs')], []⟩])) : RunC P G nt K (⟨none, g, .store sz x y, aft⟩ :: rest) σ sds := by
 subst hz
 exact .step (s_store hu (Nat.eq_of_beq_eq_true hsz) ho) hg ⟨hx, hy, trivial⟩ ⟨hr, trivial⟩ rfl k
theorem r_stE {sz : Nat} {x y : Opd} {r n i off T es : Nat} {xs zs : List (List D)} {row vs : List D} {u : V} {us : List V} (hg : Wants σ g) (hx : ev G (look σ.env) x = some (.eptr r n i off)) (hy : ev G (look σ.env) y = some u) (hr : look σ.heap r = some (.row T es xs)) (hl : xs.length = n) (hi : xs[i]? = some row) (hu : cellsOf u = some us) (huv : unV us = some vs) (hsz : vs.length = sz) (ho : off + sz ≤ row.length) (hz : xs.set i (spl row off vs) = zs)
  (k : RunC P G nt K rest (σ.tn r (.row T es zs)) (sds ++ [sdOf g [(x, .eptr r n i off), (y, u)] [(r, .row T es xs)] ⟨[(r, .row T es zs)], []⟩])) : RunC P G nt K (⟨none, g, .store sz x y, aft⟩ :: rest) σ sds := by
 subst hz
 exact r_storeE hg hx hy hr hl hi hu huv hsz ho k
theorem agt {f : Nat → V} {n : Nat} {i : Int} {j : Nat} (h : ixN n i = some j) : ((List.range n).map f)[0 + i.toNat * 1]? = some (f j) := by
 obtain ⟨h0, h1, h2⟩ := ixN_ok h
 subst h2
 simp [h1]
theorem aslot {n : Nat} {i : Int} {j : Nat} (h : ixN n i = some j) {cs : List V} (hl : cs.length = n) : (0 + i.toNat * 1) + 1 ≤ cs.length := by
 obtain ⟨h0, h1, h2⟩ := ixN_ok h
 omega
theorem ast {α : Type} {w : Nat → α} {c : α → V} {x : α} {n : Nat} {i : Int} {j : Nat} (h : ixN n i = some j) : spl ((List.range n).map fun k => c (w k)) (0 + i.toNat * 1) [c x] = (List.range n).map fun k => c (aset w j x k) := by
 obtain ⟨h0, h1, h2⟩ := ixN_ok h
 subst h2
 refine List.ext_getElem? fun k => ?_
 rw [spl_get _ _ _ (by simp; omega)]
 simp only [List.length_singleton, Nat.zero_add, Nat.mul_one, List.getElem?_map]
 by_cases hk : k = i.toNat
 ·subst hk
  have : (List.range n)[i.toNat]? = some i.toNat := by simp [h1]
  rw [if_pos ⟨Nat.le_refl _, by omega⟩, this]
  simp [aset]
 ·rw [if_neg (by omega)]
  cases hr : (List.range n)[k]? with
  | none => rfl
  | some m =>
   have : m = k := by
    have := List.getElem?_eq_some_iff.1 hr
    obtain ⟨h3, h4⟩ := this
    simpa using h4.symm
   subst this
   have hb : Nat.beq m i.toNat = false := by
    cases hb : Nat.beq m i.toNat with
    | true => exact absurd (Nat.eq_of_beq_eq_true hb) hk
    | false => rfl
   simp [aset, hb]
theorem Can.ge {σ σa : St} (h : Ge σa σ) : Can G nt σa σ := fun c a w hR => ⟨c, hR.ge h, (Went.refl c σa w).ge h⟩
theorem RunC.auX {K : St → List SD → Prop} {ops : List IOper} {σ : St} {sds : List SD} (n : Nat) (σ1 : St) (h : autR G (ops.take n) σ (keysE σ1.env) = some σ1) (k : RunC P G nt (Kc K) (ops.drop n) σ1 (sds ++ sdsC G (ops.take n) σ)) : RunC P G nt (Kc K) ops σ sds := by
 unfold autR at h
 split at h <;> try (cases h; done)
 rename_i σ' s hr
 split at h <;> cases h
 rename_i e he
 have hs : sdsC G (ops.take n) σ = s := by unfold sdsC; rw [hr]
 rw [hs] at k
 have hr' := runC_pre hr sds
 rw [List.append_nil] at hr'
 rw [← List.take_append_drop n ops]
 exact runC_ok hr' (RunC.ge k ⟨fun t v hv => selE_ok he t v hv, (look_normH _).symm, rfl, rfl, rfl, rfl⟩)
theorem RW.cut (hF : FOk F) (n : Nat) {ops : List IOper} {Q : Post} {σ : St} (σ1 : St) (h : RunC P G nt (Kc fun σ' _ => Can G nt σ' σ1) (ops.take n) σ []) (k : RW P G nt F (ops.drop n) Q σ1) : RW P G nt F ops Q σ :=
 RW.run hF n (RunC.mono h fun σb s hb => by
  obtain ⟨σx, hg, hc⟩ := hb
  exact RW.can ((Can.ge hg).trans hc) k)
theorem RunC.finJ {σ σ1 : St} {sds : List SD} (h : Can G nt σ σ1) : RunC P G nt (Kc fun σ' _ => Can G nt σ' σ1) [] σ sds := .nil ⟨σ, Ge.refl _, h⟩
theorem AW.jq {J R : Type} (st : J → St) {c : Ctl J R} {x : ICode} {Q : Post} {σ : St} (h : AW P G nt F x (thenQ (fun σ' => ∃ j, c = .next j ∧ Can G nt σ' (st j)) Q) σ) (k : ∀ j, c = .next j → Q .normal (st j)) : AW P G nt F x Q σ := by
 refine AW.canQ (h.mono fun e σ1 hq => ?_)
 cases e with
 | normal => obtain ⟨j, hj, hs⟩ := hq; exact ⟨_, hs, k j hj⟩
 | _ => exact ⟨_, Can.refl _, hq⟩
theorem AW.jqS {J : Type} (st : J → St) {c : J} {x : ICode} {Q : Post} {σ : St} (h : AW P G nt F x (thenQ (fun σ' => Can G nt σ' (st c)) Q) σ) (k : Q .normal (st c)) : AW P G nt F x Q σ := by
 refine AW.canQ (h.mono fun e σ1 hq => ?_)
 cases e with
 | normal => exact ⟨_, hq, k⟩
 | _ => exact ⟨_, Can.refl _, hq⟩
def scB (H' : List (Nat × Blk)) : List (Nat × Blk) → Bool
 | [] => true
 | (q, b) :: l => (match b with
  | .var T _ => match look H' q with | some (.var T' _) => Nat.beq T T' | _ => false
  | .mp _ => match look H' q with | some (.mp _) => true | _ => false
  | .dm => false
  | _ => true) && scB H' l
theorem scB_ok {H' : List (Nat × Blk)} : ∀ {l : List (Nat × Blk)}, scB H' l = true → (∀ q, look l q ≠ some .dm) ∧ (∀ q T cs, look l q = some (.var T cs) → ∃ cs', look H' q = some (.var T cs')) ∧ (∀ q es, look l q = some (.mp es) → ∃ es', look H' q = some (.mp es'))
 | [], _ => ⟨fun q h => (by cases h), fun q T cs h => (by cases h), fun q es h => (by cases h)⟩
 | (r, b) :: l, h => by
  simp only [scB, Bool.and_eq_true] at h
  obtain ⟨h1, h2⟩ := h
  obtain ⟨i1, i2, i3⟩ := scB_ok h2
  refine ⟨fun q hq => ?_, fun q T cs hq => ?_, fun q es hq => ?_⟩
  all_goals rw [look_cons] at hq
  all_goals split at hq
  ·cases hq; simp at h1
  ·exact i1 q hq
  ·rename_i e; subst e; cases hq
   simp only at h1
   split at h1
   ·rename_i T' cs' h3
    have := Nat.eq_of_beq_eq_true h1; subst this
    exact ⟨cs', h3⟩
   ·cases h1
  ·exact i2 q T cs hq
  ·rename_i e; subst e; cases hq
   simp only at h1
   split at h1
   ·rename_i es' h3; exact ⟨es', h3⟩
   ·cases h1
  ·exact i3 q es hq
theorem SCall.mk {f : Nat} {fn : Func} {i : IFun} {vs : List V} {H : List (Nat × Blk)} {nx : Nat} {fr : Fr} {r : V} {H' : List (Nat × Blk)} {nx' : Nat} {fr' : Fr} (hf : P.funcs[f]? = some fn) (ht : trF P fn = some i) (hlen : Nat.ble vs.length i.nt = true) (hnx : Nat.ble nx nx' = true) (hb : scB H' H = true)
  (h : AW P G i.nt Fence.wide i.body (retQ i.res r H' nx' fr' nx) ⟨envOf 0 vs, H, nx, fr, [], nx⟩) : SCall P G f vs H nx fr r H' nx' fr' := by
 unfold trF at ht
 split at ht
 ·rename_i c hbody
  split at ht
  ·rename_i ic rs h1 h2
   cases ht
   obtain ⟨i1, i2, i3⟩ := scB_ok hb
   exact SCall.of hf hbody (trC_ok h1) (trR_ok h2) (Nat.le_of_ble_eq_true hlen) i1 (Nat.le_of_ble_eq_true hnx) i2 i3 h
  ·cases ht
 ·cases ht
def noRows (nx0 : Nat) : List (Nat × Blk) → Bool
 | [] => true
 | (q, b) :: l => (!(isRow b) || Nat.ble nx0 q) && noRows nx0 l
theorem noRows_ok {nx0 : Nat} : ∀ {l : List (Nat × Blk)}, noRows nx0 l = true → ∀ q b, look l q = some b → ∀ T es xs, b = .row T es xs → nx0 ≤ q
 | [], _, q, b, h => by cases h
 | (r, x) :: l, hl, q, b, h => by
  simp only [noRows, Bool.and_eq_true, Bool.or_eq_true] at hl
  rw [look_cons] at h
  split at h
  ·rename_i e
   cases h
   intro T es xs e'
   subst e'; subst e
   rcases hl.1 with h | h
   ·simp [isRow] at h
   ·exact Nat.le_of_ble_eq_true h
  ·exact noRows_ok hl.2 q b h
def dfB (H' : List (Nat × Blk)) : List Nat → Bool
 | [] => true
 | q :: l => !(hasN q l) && (!(look H' q).isSome && dfB H' l)
theorem dfB_ok {H' : List (Nat × Blk)} : ∀ {l : List Nat}, dfB H' l = true → l.Nodup ∧ ∀ q ∈ l, look H' q = none
 | [], _ => ⟨List.nodup_nil, fun q h => (by cases h)⟩
 | x :: l, h => by
  simp only [dfB, Bool.and_eq_true, Bool.not_eq_true'] at h
  obtain ⟨h1, h2, h3⟩ := h
  obtain ⟨i1, i2⟩ := dfB_ok h3
  refine ⟨List.nodup_cons.2 ⟨hasN_no h1, i1⟩, fun q hq => ?_⟩
  rcases List.mem_cons.1 hq with rfl | hq
  ·simpa using h2
  ·exact i2 q hq
def endB (σ : St) (r : V) (H' : List (Nat × Blk)) (nx' nx0 : Nat) : Bool :=
 Nat.ble nx' σ.nx && (r.okR nx' (fun q => (look H' q).isSome) && (okH nx' (fun q => (look H' q).isSome) H' && (noRows nx0 H' && dfB H' σ.dfs)))
theorem retX {rs : List IRes} {r : V} {H' : List (Nat × Blk)} {nx' nx0 : Nat} {fr' : Fr} {σ : St} {vs : List V} (hv : ResVs σ rs vs) (hz : Frz (hzOf σ.heap H') (retV vs) r) (hfr : σ.fr = fr') (hH : selH σ.heap (keysL H') = some H') (hb : endB σ r H' nx' nx0 = true) : RetQ rs r H' nx' fr' nx0 σ := by
 simp only [endB, Bool.and_eq_true] at hb
 obtain ⟨h1, h2, h3, h4, h5⟩ := hb
 exact ⟨dfB_ok h5, ⟨vs, hv, .of hz⟩, h2, Nat.le_of_ble_eq_true h1, fun q b hq => ⟨selH_ok hH q b hq, (okH_ok h3 q b hq).1, (okH_ok h3 q b hq).2, noRows_ok h4 q b hq⟩, hfr⟩
def FrzRL (H : Hp) : List V → List V → Prop
 | [], [] => True
 | x :: xs, y :: ys => FrzR H x y ∧ FrzRL H xs ys
 | _, _ => False
theorem FrzRL.get {H : Hp} : ∀ {cs cs' : List V}, FrzRL H cs cs' → cs'.length = cs.length ∧ ∀ (i : Nat) (x y : V), cs[i]? = some x → cs'[i]? = some y → FrzR H x y
 | [], [], _ => ⟨rfl, fun i x y hx => by simp at hx⟩
 | x :: xs, y :: ys, ⟨h, k⟩ => by
  obtain ⟨h1, h2⟩ := FrzRL.get k
  refine ⟨by simp [h1], fun i a b ha hb => ?_⟩
  cases i with
  | zero => simp at ha hb; subst ha hb; exact h
  | succ i => exact h2 i a b (by simpa using ha) (by simpa using hb)
theorem FrzR.agg_of {H : Hp} {cs cs' : List V} (h : FrzRL H cs cs') : FrzR H (.agg cs) (.agg cs') := .agg h.get.1 h.get.2
theorem retXM {rs : List IRes} {r : V} {H' : List (Nat × Blk)} {nx' nx0 : Nat} {fr' : Fr} {σ : St} {vs : List V} (hv : ResVs σ rs vs) (hz : FrzR (hzOf σ.heap H') (retV vs) r) (hfr : σ.fr = fr') (hH : selH σ.heap (keysL H') = some H') (hb : endB σ r H' nx' nx0 = true) : RetQ rs r H' nx' fr' nx0 σ := by
 simp only [endB, Bool.and_eq_true] at hb
 obtain ⟨h1, h2, h3, h4, h5⟩ := hb
 exact ⟨dfB_ok h5, ⟨vs, hv, hz⟩, h2, Nat.le_of_ble_eq_true h1, fun q b hq => ⟨selH_ok hH q b hq, (okH_ok h3 q b hq).1, (okH_ok h3 q b hq).2, noRows_ok h4 q b hq⟩, hfr⟩
end
end Go.Abs
namespace Go.Abs
abbrev I (n : Int) : D := .int .i64 n
def wr (n : Int) : Int := IntKind.i64.wrap n
theorem wr_eq (n : Int) : wr n = (n + 9223372036854775808) % 18446744073709551616 - 9223372036854775808 := by
 unfold wr; rw [IntKind.wrap_i64]
theorem wr_in {n : Int} (h : -9223372036854775808 ≤ n) (h' : n ≤ 9223372036854775807) : wr n = n := by rw [wr_eq]; omega
theorem wr_range (x : Int) : -9223372036854775808 ≤ wr x ∧ wr x ≤ 9223372036854775807 := by rw [wr_eq]; omega
def arrL (l : List Int) : Nat → Int := fun k => l.getD k 0
def shl64 (x y : Int) : Int := wr (x * 2 ^ (min y.toNat 64))
def shr64 (x y : Int) : Int := x.fdiv (2 ^ (min y.toNat 64))
theorem shl64_ok {x y : Int} (h : 0 ≤ y) : shR .shl .i64 x y = some (shl64 x y) := by
 simp only [shR, shl64, wr]; rw [if_neg (by omega)]; rfl
theorem shr64_ok {x y : Int} (h : 0 ≤ y) : shR .shr .i64 x y = some (shr64 x y) := by
 simp only [shR, shr64]; rw [if_neg (by omega)]; rfl
def bAnd (x y : Int) : Int := wr (BitVec.ofInt 64 x &&& BitVec.ofInt 64 y).toNat
theorem ix_lt {α β : Type} {xs : List α} {n : Nat} {x : α} {f : α → β} (h : xs[n]? = some x) : n < (List.map f xs).length := by
 rw [List.length_map]; exact (List.getElem?_eq_some_iff.1 h).1
theorem lenm {α β : Type} {f : α → β} {xs : List α} : ((List.map f xs).length : Int) = xs.length := by rw [List.length_map]
theorem stz {α : Type} {f : α → List D} {xs : List α} {i : Int} {x : α} {c : List D} (h : c = f x) : (List.map f xs).set i.toNat c = List.map f (setL xs i x) := by
 subst h; unfold setL; rw [List.map_set]
section
variable {P : Program} {G : Gl} {nt : Nat} {F : Fence} {K : St → List SD → Prop} {rest : List IOper} {σ : St} {sds : List SD} {g : Option (Nat × Bool)} {aft : List Nat}
theorem r_lenX {d : Option Nat} {x : Opd} {es : Nat} {xs : List (List D)} {n : Int} (hg : Wants σ g) (hx : ev G (look σ.env) x = some (.d (.sl es xs))) (hn : (xs.length : Int) = n)
  (k : RunC P G nt K rest (σ.put d (.d (.int .i64 n))) (sds ++ [sdOf g [(x, .d (.sl es xs))] [] ⟨[], []⟩])) : RunC P G nt K (⟨d, g, .len x, aft⟩ :: rest) σ sds := by
 subst hn; exact .val s_lenD hg ⟨hx, trivial⟩ trivial k
theorem r_lenY {d : Option Nat} {x : Opd} {r m : Nat} {n : Int} (hg : Wants σ g) (hx : ev G (look σ.env) x = some (.own r m)) (hn : (m : Int) = n)
  (k : RunC P G nt K rest (σ.put d (.d (.int .i64 n))) (sds ++ [sdOf g [(x, .own r m)] [] ⟨[], []⟩])) : RunC P G nt K (⟨d, g, .len x, aft⟩ :: rest) σ sds := by
 subst hn; exact .val s_lenO hg ⟨hx, trivial⟩ trivial k
end
end Go.Abs
namespace Go.Abs
def isNext {S R : Type} : Ctl S R → Bool
 | .next _ => true
 | .brk _ => false
def rndC {A S X : Type} (B : A → S → Option (Ctl S X)) (a : A) : Ctl S X → Option (Ctl S X × Bool)
 | .next s => (B a s).bind fun c => some (c, isNext c)
 | .brk _ => none
def mfd {K W : Type} (q : K → K → Bool) (k : K) : List (K × W) → Nat → Option (Nat × W)
 | [], _ => none
 | p :: m, i => bif q k p.1 then some (i, p.2) else mfd q k m (i + 1)
def mget {K W : Type} (q : K → K → Bool) (m : List (K × W)) (k : K) : Option W := (mfd q k m 0).map (·.2)
def mput {K W : Type} (q : K → K → Bool) (m : List (K × W)) (k : K) (w : W) : Option (List (K × W)) := bif (mget q m k).isNone then some (m ++ [(k, w)]) else none
theorem mput_ok {K W : Type} {q : K → K → Bool} {m l : List (K × W)} {k : K} {w : W} (h : mput q m k w = some l) : mget q m k = none ∧ m ++ [(k, w)] = l := by
 unfold mput at h
 cases hr : (mget q m k).isNone with
 | true => rw [hr] at h; cases h; exact ⟨by simpa using hr, rfl⟩
 | false => rw [hr] at h; cases h
theorem lookD_map {K W : Type} {ks : List Nat} {ek : K → List D} {dv : W → DV} {q : K → K → Bool} (hq : ∀ a b, eqDs ks (ek a) (ek b) = some (q a b)) (hl : ∀ a, (ek a).length = ks.length) (k : K) :
  ∀ (m : List (K × W)) (i : Nat), lookD ks (m.map fun p => (DV.a (ek p.1), dv p.2)) (ek k) i = some ((mfd q k m i).map fun p => (p.1, dv p.2))
 | [], i => rfl
 | p :: m, i => by
  simp only [List.map_cons, lookD, hq]
  cases h : q k p.1 with
  | true => simp [mfd, h]
  | false =>
   have : Nat.beq (ek p.1).length ks.length = true := by rw [hl, Nat.beq_refl]
   simp only [mfd, h, this, cond_true, cond_false]
   exact lookD_map hq hl k m (i + 1)
section
variable {P : Program} {G : Gl} {nt : Nat} {F : Fence}
theorem lkvA {W : Type} {z : List D} {cells : W → List D} {zw : W} (hz : z = cells zw) (o : Option (Nat × W)) : lookV z true (o.map fun p => (p.1, DV.a (cells p.2))) = .agg ((cells ((o.map (·.2)).getD zw)).map .d) := by
 subst hz
 cases o <;> rfl
theorem isS {W : Type} {f : Nat × W → Nat × DV} (o : Option (Nat × W)) : (o.map f).isSome = (o.map (·.2)).isSome := by cases o <;> rfl
end
section
variable {P : Program} {G : Gl} {nt : Nat} {F : Fence} {K : St → List SD → Prop} {rest : List IOper} {σ : St} {sds : List SD} {g : Option (Nat × Bool)} {aft : List Nat}
theorem r_lookFA {KT WT : Type} {d : Option Nat} {kt : Nat} {ok : Bool} {z : List D} {x k0 : Opd} {ks : List Nat} (q : KT → KT → Bool) (ek : KT → List D) (cells : WT → List D) (m : List (KT × WT)) (key : KT) (zw : WT) (hg : Wants σ g) (hx : ev G (look σ.env) x = some (.fmp (m.map fun p => (DV.a (ek p.1), DV.a (cells p.2))))) (hk0 : ev G (look σ.env) k0 = some (.agg ((ek key).map .d)))
  (hf : FlatT P kt ks) (hq : ∀ a b, eqDs ks (ek a) (ek b) = some (q a b)) (hl : ∀ a, (ek a).length = ks.length) (hz : z = cells zw)
  (k : RunC P G nt K rest (σ.put d (okV ok (.agg ((cells ((mget q m key).getD zw)).map .d)) (mget q m key).isSome)) (sds ++ [sdOf g [(x, .fmp (m.map fun p => (DV.a (ek p.1), DV.a (cells p.2)))), (k0, .agg ((ek key).map .d))] [] ⟨[], []⟩])) : RunC P G nt K (⟨d, g, .lookup kt ok z true x k0, aft⟩ :: rest) σ sds := by
 refine r_lookupF hg hx hk0 (unV_map _) hf (hl key) (fun i xs v hi => ?_) (lookD_map (dv := fun w => DV.a (cells w)) hq hl key m 0) (by simp [dvV]) ?_
 ·rw [List.getElem?_map] at hi
  cases hm : m[i]? with
  | none => rw [hm] at hi; cases hi
  | some p => rw [hm] at hi; cases hi; exact hl _
 ·rw [lkvA hz, isS]; exact k
theorem r_mput {KT WT : Type} {kt : Nat} {m0 k0 x : Opd} {r : Nat} {ks : List Nat} {v : V} (q : KT → KT → Bool) (ek : KT → List D) (dv : WT → DV) {m l : List (KT × WT)} {key : KT} {w : WT} (hg : Wants σ g) (hm : ev G (look σ.env) m0 = some (.map r)) (hk0 : ev G (look σ.env) k0 = some (.agg ((ek key).map .d))) (hx : ev G (look σ.env) x = some v)
  (hr : look σ.heap r = some (.mp (m.map fun p => (DV.a (ek p.1), dv p.2)))) (hf : FlatT P kt ks) (hq : ∀ a b, eqDs ks (ek a) (ek b) = some (q a b)) (hl : ∀ a, (ek a).length = ks.length) (hv : dvOf v = some (dv w)) (hp : mput q m key w = some l)
  (k : RunC P G nt K rest (σ.tn r (.mp (l.map fun p => (DV.a (ek p.1), dv p.2)))) (sds ++ [sdOf g [(m0, .map r), (k0, .agg ((ek key).map .d)), (x, v)] [(r, .mp (m.map fun p => (DV.a (ek p.1), dv p.2)))] ⟨[(r, .mp (l.map fun p => (DV.a (ek p.1), dv p.2)))], []⟩])) : RunC P G nt K (⟨none, g, .mapup kt m0 k0 x, aft⟩ :: rest) σ sds := by
 obtain ⟨h1, h2⟩ := mput_ok hp
 subst h2
 rw [List.map_append] at k
 refine r_mapup hg hm hk0 (unV_map _) hx hr hf (hl key) (fun i xs v hi => ?_) ?_ hv k
 ·rw [List.getElem?_map] at hi
  cases hmi : m[i]? with
  | none => rw [hmi] at hi; cases hi
  | some p => rw [hmi] at hi; cases hi; exact hl _
 ·rw [lookD_map hq hl key m 0]
  unfold mget at h1
  cases ho : mfd q key m 0 with
  | none => rfl
  | some p => rw [ho] at h1; cases h1
end
section
variable {P : Program} {G : Gl} {nt : Nat} {F : Fence}
def lendRB (ρ : Nat → Nat) (n0 : Nat) (h0 H0 : List (Nat × Blk)) : Bool :=
 allL (fun p => Nat.blt p.1 n0 && (p.2.lend && (p.2.okR n0 (fun q => (look H0 q).isSome) && ((p.2.ren ρ).noY && !(look h0 (ρ p.1)).isSome)))) H0 && allL (fun p => allL (fun p' => Nat.beq p.1 p'.1 || !(Nat.beq (ρ p.1) (ρ p'.1))) H0) H0
theorem LendR.of {ρ : Nat → Nat} {H0 : List (Nat × Blk)} {n0 : Nat} {hp h0 : List (Nat × Blk)} (hb : lendRB ρ n0 h0 H0 = true) (hr : Rds (look hp) (renL ρ H0)) : LendR ρ H0 n0 hp h0 := by
 simp only [lendRB, Bool.and_eq_true] at hb
 obtain ⟨h1, h2⟩ := hb
 refine ⟨fun q b hq => ?_, fun q q' hq hq' he => ?_⟩
 ·have hm := look_mem hq
  have := allL_ok h1 _ hm
  simp only [Bool.and_eq_true, Bool.not_eq_true'] at this
  obtain ⟨i1, i2, i3, i4, i5⟩ := this
  refine ⟨Nat.le_of_ble_eq_true i1, i2, i3, i4, ?_, by simpa using i5⟩
  exact hr.mem (mem_renL hm)
 ·obtain ⟨b, hb⟩ := Option.isSome_iff_exists.1 hq
  obtain ⟨b', hb'⟩ := Option.isSome_iff_exists.1 hq'
  have := allL_ok (allL_ok h2 _ (look_mem hb)) _ (look_mem hb')
  simp only [Bool.or_eq_true, Bool.not_eq_true'] at this
  rcases this with h | h
  ·exact Nat.eq_of_beq_eq_true h
  ·rw [he, Nat.beq_refl] at h; cases h
def hOf {S X : Type} (hS : S → List (Nat × Blk)) (hX : X → List (Nat × Blk)) : Ctl S X → List (Nat × Blk)
 | .next s => hS s
 | .brk x => hX x
def pOf {S X : Type} (pX : X → Option Code) : Ctl S X → Option Code
 | .next _ => none
 | .brk x => pX x
theorem AW.rfX {A S X : Type} {σ : St} {f : Opd} {ps : List Nat} {ia ib : ICode} {Q : Post} {u : V} {gf : Nat} {first caps : List V} (hS : S → List (Nat × Blk)) (hX : X → List (Nat × Blk)) (pX : X → Option Code) (B : A → S → Option (Ctl S X)) (enc : A → List V)
  {s0 : S} {out : Ctl S X} (env' : List (Nat × V)) (h0 : List (Nat × Blk)) (ns : List Nat)
  (hf : ev G (look σ.env) f = some u) (hc : Callee u gf first caps) (hbd : hasBody P gf = true)
  {vs0 : List V} {H0 H1 : List (Nat × Blk)} {n0 : Nat} {r0 : V}
  (hsub : keepS σ (keysE env') (keysL h0) σ.nx = some { env := env', heap := h0, nx := σ.nx, fr := σ.fr, dfs := σ.dfs, base := σ.base })
  (spec : ∀ fr_ : Ctl S X → Fr, (∀ a s s' b, rndC B a s = some (s', b) → YCall P G (fr_ s) (enc a) (.d (.bool b)) (fr_ s')) → SCall P G gf vs0 H0 n0 (fr_ (.next s0)) r0 H1 n0 (fr_ out))
  (hl : lendRB (rnm ns σ.nx) n0 h0 H0 = true) (hrd : Rds (look σ.heap) (renL (rnm ns σ.nx) H0))
  (hvs : first ++ [.yld] ++ caps = V.ren.rens (rnm ns σ.nx) vs0) (hny : V.noY.noYs first = true ∧ V.noY.noYs caps = true) (hok : V.okR.okRs n0 (fun q => (look H0 q).isSome) vs0 = true)
  (hs0 : hS s0 = (σ.nx, .dm) :: h0) (hps : ∀ a, ps.length = (enc a).length) (hisd : ∀ a, V.isD.isDs (enc a) = true)
  (round : ∀ a s c, B a s = some c → ∀ l, AW P G nt (Fence.wide.inRound l) ia (thenQ (AW P G nt (Fence.wide.inRound l) ib (fun e σ' => ∃ σ1, Can G nt σ' σ1 ∧ RdQ (σ.nx + 1) σ.fr (hS s) (hOf hS hX c) (pOf pX c) e σ1)) (fun _ _ => False)) ⟨zipE ps (enc a) env', hS s, σ.nx + 1, σ.fr, [], σ.nx + 1⟩)
  (hpX : ∀ x, (pX x).isNone = false)
  (hk : pendQ Q (pOf pX out) { env := env', heap := hOf hS hX out, nx := σ.nx + 1, fr := σ.fr, dfs := σ.nx :: σ.dfs, base := σ.base }) : AW P G nt Fence.wide (.rfun f ps ia ib) Q σ := by
 refine AW.rfun (r0 := r0) (H1 := H1) (ρ := rnm ns σ.nx) hf hc hbd (keepS_ok hsub) (LendR.of hl hrd) hvs hny hok (fun W hY => ?_) hk
 have := spec (fun c => W (hOf hS hX c) (pOf pX c)) (fun a s s' b h => ?_)
 ·simp only [hOf, pOf, hs0] at this
  exact this
 ·cases s with
  | brk x => cases h
  | next s =>
   simp only [rndC] at h
   obtain ⟨c, hc', h2⟩ := bsome h
   cases h2
   have hy := hY (hS s) (enc a) (hOf hS hX s') (pOf pX s') (hps a) (hisd a) (fun l => (round a s s' hc' l).mono fun e σ' hq => (by
    cases e with
    | normal => exact AW.canQ hq
    | _ => exact hq))
   have e : (pOf pX s').isNone = isNext s' := by
    cases s' with
    | next s => rfl
    | brk x => exact hpX x
   rw [e] at hy
   exact hy
theorem rdX {nx : Nat} {fr : Fr} {h h' : List (Nat × Blk)} {pend : Option Code} {e : Exit} {σ : St} (he : rdE e pend) (hfr : σ.fr = fr) (hH : selH σ.heap (keysL h') = some h') (hb : (okH nx (fun q => (look h' q).isSome) h' && allL (fun p => (look h' p.1).isSome) h) = true) : RdQ nx fr h h' pend e σ := by
 simp only [Bool.and_eq_true] at hb
 refine ⟨he, hfr, fun r b hr => ⟨selH_ok hH r b hr, (okH_ok hb.1 r b hr).1, (okH_ok hb.1 r b hr).2⟩, fun r hr => ?_⟩
 obtain ⟨b, hb'⟩ := Option.isSome_iff_exists.1 hr
 exact allL_ok hb.2 _ (look_mem hb')
end
end Go.Abs
namespace Go.Abs
def catV (a b : List V) : List V := a ++ b
section
variable {P : Program} {nt : Nat} {G : Gl} {F : Fence}
theorem AW.seqK {x y : ICode} {Q : Post} {σ : St} (h : ∀ K : St → Prop, (∀ σ1, AW P G nt F y Q σ1 → K σ1) → AW P G nt F x (thenQ K Q) σ) : AW P G nt F (.seq x y) Q σ := AW.seq (h _ fun _ h => h)
theorem AW.jnK {J R : Type} (st : J → St) {c : Ctl J R} {x y : ICode} {Q : Post} {σ : St} (h : ∀ K : St → Prop, (∀ j σ', c = .next j → Can G nt σ' (st j) → K σ') → AW P G nt F x (thenQ K Q) σ) (k : ∀ j, c = .next j → AW P G nt F y Q (st j)) : AW P G nt F (.seq x y) Q σ :=
 AW.jn st (h _ fun j _ h1 h2 => ⟨j, h1, h2⟩) k
theorem AW.jnSK {J : Type} (st : J → St) {c : J} {x y : ICode} {Q : Post} {σ : St} (h : ∀ K : St → Prop, (∀ σ', Can G nt σ' (st c) → K σ') → AW P G nt F x (thenQ K Q) σ) (k : AW P G nt F y Q (st c)) : AW P G nt F (.seq x y) Q σ :=
 AW.jnS st (h _ fun _ h => h) k
theorem AW.jqK {J R : Type} (st : J → St) {c : Ctl J R} {x : ICode} {Q : Post} {σ : St} (h : ∀ K : St → Prop, (∀ j σ', c = .next j → Can G nt σ' (st j) → K σ') → AW P G nt F x (thenQ K Q) σ) (k : ∀ j, c = .next j → Q .normal (st j)) : AW P G nt F x Q σ :=
 AW.jq st (h _ fun j _ h1 h2 => ⟨j, h1, h2⟩) k
theorem AW.jqSK {J : Type} (st : J → St) {c : J} {x : ICode} {Q : Post} {σ : St} (h : ∀ K : St → Prop, (∀ σ', Can G nt σ' (st c) → K σ') → AW P G nt F x (thenQ K Q) σ) (k : Q .normal (st c)) : AW P G nt F x Q σ :=
 AW.jqS st (h _ fun _ h => h) k
theorem AW.evCK {α S R : Type} (st : Int → S → St) (f : Int → α → S → Option (Ctl S R)) {xs : List α} {s0 : S} {out : Ctl S R} {x : ICode} {Q : Post} {σ : St} (h : eachC f xs 0 s0 = some out) (hs : Can G nt σ (st 0 s0))
  (body : ∀ (i : Int) p s, 0 ≤ i → i < xs.length → xs[i.toNat]? = some p → ∀ c, f i p s = some c → (∀ r, c = .brk r → out = .brk r) → ∀ K : St → Prop, (∀ s' σ', c = .next s' → Can G nt σ' (st (i + 1) s') → K σ') → AW P G nt F x (thenQ K Q) (st i s))
  (done : ∀ (i : Int) s, 0 ≤ i → (xs.length : Int) ≤ i → out = .next s → AW P G nt F x (thenQ (fun _ => False) Q) (st i s)) : AW P G nt F (.loop x) Q σ :=
 AW.evC st f h hs (fun i p s h1 h2 h3 c h4 h5 => body i p s h1 h2 h3 c h4 h5 _ fun s' _ e h => ⟨s', e, h⟩) done
theorem AW.evSK {α S : Type} (st : Int → S → St) (f : Int → α → S → Option S) {xs : List α} {s0 out : S} {x : ICode} {Q : Post} {σ : St} (h : eachS f xs 0 s0 = some out) (hs : Can G nt σ (st 0 s0))
  (body : ∀ (i : Int) p s, 0 ≤ i → i < xs.length → xs[i.toNat]? = some p → ∀ c, f i p s = some c → ∀ K : St → Prop, (∀ σ', Can G nt σ' (st (i + 1) c) → K σ') → AW P G nt F x (thenQ K Q) (st i s))
  (done : ∀ (i : Int) s, 0 ≤ i → (xs.length : Int) ≤ i → s = out → AW P G nt F x (thenQ (fun _ => False) Q) (st i s)) : AW P G nt F (.loop x) Q σ :=
 AW.evS st f h hs (fun i p s h1 h2 h3 c h4 => body i p s h1 h2 h3 c h4 _ fun _ h => h) done
theorem AW.lpCK {S R : Type} (st : Int → S → St) (f : Int → S → Option (Ctl S R)) (N : Int) {i0 : Int} {s0 : S} {out : Ctl S R} {x : ICode} {Q : Post} {σ : St} (h : forC f (N - i0).toNat i0 s0 = some out) (hs : Can G nt σ (st i0 s0))
  (body : ∀ i s, i0 ≤ i → i < N → ∀ c, f i s = some c → (∀ r, c = .brk r → out = .brk r) → ∀ K : St → Prop, (∀ s' σ', c = .next s' → Can G nt σ' (st (i + 1) s') → K σ') → AW P G nt F x (thenQ K Q) (st i s))
  (done : ∀ i s, i0 ≤ i → N ≤ i → out = .next s → AW P G nt F x (thenQ (fun _ => False) Q) (st i s)) : AW P G nt F (.loop x) Q σ :=
 AW.lpC st f N h hs (fun i s h1 h2 c h4 h5 => body i s h1 h2 c h4 h5 _ fun s' _ e h => ⟨s', e, h⟩) done
theorem AW.lpSK {S : Type} (st : Int → S → St) (f : Int → S → Option S) (N : Int) {i0 : Int} {s0 out : S} {x : ICode} {Q : Post} {σ : St} (h : forS f (N - i0).toNat i0 s0 = some out) (hs : Can G nt σ (st i0 s0))
  (body : ∀ i s, i0 ≤ i → i < N → ∀ c, f i s = some c → ∀ K : St → Prop, (∀ σ', Can G nt σ' (st (i + 1) c) → K σ') → AW P G nt F x (thenQ K Q) (st i s))
  (done : ∀ i s, i0 ≤ i → N ≤ i → s = out → AW P G nt F x (thenQ (fun _ => False) Q) (st i s)) : AW P G nt F (.loop x) Q σ :=
 AW.lpS st f N h hs (fun i s h1 h2 c h4 => body i s h1 h2 c h4 _ fun _ h => h) done
theorem AW.whK {S R : Type} (st : S → St) (f : S → Option (Ctl S R)) {n : Nat} {s0 : S} {out : R} {x : ICode} {Q : Post} {σ : St} (h : whileC f n s0 = some out) (hs : Can G nt σ (st s0))
  (body : ∀ s c, f s = some c → (∀ r, c = .brk r → r = out) → ∀ K : St → Prop, (∀ s' σ', c = .next s' → Can G nt σ' (st s') → K σ') → AW P G nt F x (thenQ K Q) (st s)) : AW P G nt F (.loop x) Q σ :=
 AW.wh st f h hs (fun s c h4 h5 => body s c h4 h5 _ fun s' _ e h => ⟨s', e, h⟩)
theorem SCall.mkK {f : Nat} {fn : Func} {i : IFun} {vs : List V} {H : List (Nat × Blk)} {nx : Nat} {fr : Fr} {r : V} {H' : List (Nat × Blk)} {nx' : Nat} {fr' : Fr} (hf : P.funcs[f]? = some fn) (ht : trF P fn = some i) (hlen : Nat.ble vs.length i.nt = true) (hnx : Nat.ble nx nx' = true) (hb : scB H' H = true)
  (h : ∀ Q : Post, (∀ σ, RetQ i.res r H' nx' fr' nx σ → Q .ret σ) → (∀ σ, RetQ i.res r H' nx' fr' nx σ → Q .normal σ) → AW P G i.nt Fence.wide i.body Q ⟨envOf 0 vs, H, nx, fr, [], nx⟩) : SCall P G f vs H nx fr r H' nx' fr' :=
 SCall.mk hf ht hlen hnx hb (h _ (fun _ h => h) (fun _ h => h))
theorem AW.srwK {ops : List IOper} {y : ICode} {Q : Post} {σ : St} (h : ∀ Q' : Post, (∀ σ1, AW P G nt F y Q σ1 → Q' .normal σ1) → RW P G nt F ops Q' σ) : AW P G nt F (.seq (.reg false ops) y) Q σ := AW.seq (AW.regW (h _ fun _ h => h))
theorem AW.sdrwK (hF : FOk F) {ops : List IOper} {y : ICode} {Q : Post} {σ : St} (h : ∀ Q' : Post, (∀ σ1, AW P G nt F y Q σ1 → Q' .normal σ1) → RunC P G nt (Kd ops Q') ops σ []) : AW P G nt F (.seq (.reg true ops) y) Q σ := AW.seq (AW.drw hF (h _ fun _ h => h))
end
end Go.Abs
namespace Go.Abs
open Go.ChangeShapes Go.WideShapes Go.ChangeAt Go.WideMaps Go.WideElems Go.RowKit
inductive Sp where
 | i (k : IntKind)
 | b
 | tx
 | sl (es : List Sp)
mutual
def Sp.fit : Sp → D → Prop
 | .i k, x => ∃ n, x = .int k n ∧ (Lit.int k n).wf = true
 | .b, x => ∃ c, x = .bool c
 | .tx, x => ∃ c : ByteArray, x = .str c ∧ c.size ≤ maxLen
 | .sl es, x => ∃ xs, x = .sl es.length xs ∧ xs.length ≤ maxLen ∧ ∀ row, row ∈ xs → fitL es row
def fitL : List Sp → List D → Prop
 | [], l => l = []
 | s :: ss, l => ∃ x xs, l = x :: xs ∧ s.fit x ∧ fitL ss xs
end
theorem fitL_len : ∀ (ss : List Sp) (l : List D), fitL ss l → l.length = ss.length
 | [], l, h => by rw [fitL] at h; subst h; rfl
 | s :: ss, l, h => by rw [fitL] at h; obtain ⟨x, xs, rfl, _, h⟩ := h; simp [fitL_len ss xs h]
theorem fitL_append : ∀ (a b : List Sp) (l m : List D), fitL a l → fitL b m → fitL (a ++ b) (l ++ m)
 | [], b, l, m, h, k => by rw [fitL] at h; subst h; exact k
 | s :: ss, b, l, m, h, k => by
  rw [fitL] at h; obtain ⟨x, xs, rfl, hx, h⟩ := h
  rw [List.cons_append, fitL]
  exact ⟨x, xs ++ m, rfl, hx, fitL_append ss b xs m h k⟩
def spFs (P : Program) (rec : TypeId → Option (List Sp)) : List Field → Nat → Option (List Sp)
 | [], _ => some []
 | f :: fs, o => match rec f.type with
  | some l => match spFs P rec fs (o + l.length) with
   | some ls => bif Nat.beq f.offset o && Nat.beq (P.cellsOf f.type) l.length then some (l ++ ls) else none
   | none => none
  | none => none
def spT (P : Program) : Nat → TypeId → Option (List Sp)
 | 0, _ => none
 | d + 1, t => match P.underlying t with
  | some (.int k) => some [.i k]
  | some .bool => some [.b]
  | some .string => some [.tx]
  | some (.slice e) => match spT P d e with
   | some l => bif Nat.beq (P.cellsOf e) l.length && Nat.ble 1 l.length then some [.sl l] else none
   | none => none
  | some (.struct fs) => match spFs P (spT P d) fs.toList 0 with
   | some l => bif Nat.beq (P.cellsOf t) l.length then some l else none
   | none => none
  | some (.array n e) => match spT P d e with
   | some l => bif Nat.beq (P.cellsOf e) l.length && Nat.beq (P.cellsOf t) (n * l.length) then some (List.replicate n l).flatten else none
   | none => none
  | _ => none
def Rd (A : Nat → Prop) (w : World) (sp : List Sp) (cs : List Value) : Prop :=
 ∃ xs, fitL sp xs ∧ cs.length = xs.length ∧ ∀ (i : Nat) (x : D) (v : Value), xs[i]? = some x → cs[i]? = some v → DRel A w x v
theorem Rd.nil {A : Nat → Prop} {w : World} : Rd A w [] [] := ⟨[], rfl, rfl, fun i x v h => by simp at h⟩
theorem Rd.one {A : Nat → Prop} {w : World} {s : Sp} {x : D} {v : Value} (h : s.fit x) (k : DRel A w x v) : Rd A w [s] [v] :=
 ⟨[x], by rw [fitL]; exact ⟨x, [], rfl, h, rfl⟩, rfl, fun i y u hy hu => by
  match i with
  | 0 => simp at hy hu; subst hy; subst hu; exact k
  | i + 1 => simp at hy⟩
theorem Rd.append {A : Nat → Prop} {w : World} {a b : List Sp} {l m : List Value} (h : Rd A w a l) (k : Rd A w b m) : Rd A w (a ++ b) (l ++ m) := by
 obtain ⟨xs, h1, h2, h3⟩ := h
 obtain ⟨ys, k1, k2, k3⟩ := k
 refine ⟨xs ++ ys, fitL_append _ _ _ _ h1 k1, by simp [h2, k2], fun i x v hx hv => ?_⟩
 rw [List.getElem?_append] at hx hv
 by_cases hi : i < xs.length
 ·rw [if_pos hi] at hx; rw [if_pos (by omega)] at hv; exact h3 i x v hx hv
 ·rw [if_neg hi] at hx; rw [if_neg (by omega), h2] at hv; exact k3 _ x v hx hv
section
variable {H : Type} {enc : TypeId × Value → H} {P : Program} {w : World} {spare : Nat → Bool} {held : Bool} {A : Nat → Prop}
theorem spFs_rd {rec : TypeId → Option (List Sp)} {n : Nat} (ih : ∀ t sp cs x, rec t = some sp → DataW.trod enc P w 0 spare held n t cs = some x → Rd A w sp cs) (cs : List Value) : ∀ (fs : List Field) (o : Nat) (l : List Sp), spFs P rec fs o = some l →
  (∀ f, f ∈ fs → ∃ x, DataW.trod enc P w 0 spare held n f.type ((cs.drop f.offset).take (P.cellsOf f.type)) = some x) → cs.length = o + l.length → Rd A w l (cs.drop o)
 | [], o, l, h, hx, hl => by
  simp only [spFs, Option.some.injEq] at h; subst h
  rw [List.drop_eq_nil_of_le (by simp at hl; omega)]
  exact Rd.nil
 | f :: fs, o, l, h, hx, hl => by
  rw [spFs] at h
  cases h1 : rec f.type with
  | none => simp [h1] at h
  | some l1 =>
   cases h2 : spFs P rec fs (o + l1.length) with
   | none => simp [h1, h2] at h
   | some ls =>
    simp only [h1, h2] at h
    cases hb : (Nat.beq f.offset o && Nat.beq (P.cellsOf f.type) l1.length) with
    | false => simp [hb] at h
    | true =>
     simp only [hb, cond_true, Option.some.injEq] at h
     subst h
     rw [Bool.and_eq_true] at hb
     have e1 := Nat.eq_of_beq_eq_true hb.1
     have e2 := Nat.eq_of_beq_eq_true hb.2
     obtain ⟨x, hx1⟩ := hx f (by simp)
     rw [e1, e2] at hx1
     have r1 := ih _ _ _ _ h1 hx1
     simp at hl
     have r2 := spFs_rd ih cs fs (o + l1.length) ls h2 (fun g hg => hx g (by simp [hg])) (by omega)
     have := r1.append r2
     rwa [← List.drop_drop, List.take_append_drop] at this
theorem spA_rd {n : Nat} {e : TypeId} {l : List Sp} (ih : ∀ cs x, DataW.trod enc P w 0 spare held n e cs = some x → Rd A w l cs) (cs : List Value) (k : Nat) (hk : ∀ i, i < k → ∃ x, DataW.trod enc P w 0 spare held n e ((cs.drop (i * l.length)).take l.length) = some x) :
  ∀ (j i : Nat), i + j = k → cs.length = k * l.length → Rd A w (List.replicate j l).flatten (cs.drop (i * l.length))
 | 0, i, h, hl => by
  rw [List.drop_eq_nil_of_le (by rw [hl]; simp at h; subst h; exact Nat.le_refl _)]
  exact Rd.nil
 | j + 1, i, h, hl => by
  obtain ⟨x, hx⟩ := hk i (by omega)
  have r1 := ih _ _ hx
  have r2 := spA_rd ih cs k hk j (i + 1) (by omega) hl
  have := r1.append r2
  rw [Nat.succ_mul, ← List.drop_drop, List.take_append_drop] at this
  rwa [List.replicate_succ, List.flatten_cons]
theorem cell_lt {a : Addr} {v : Value} (h : w.cell? a = some v) : a.block < w.heap.size ∧ a.spot = none := by
 unfold World.cell? at h
 split at h
 ·rename_i c _ _ hc
  refine ⟨?_, ?_⟩
  ·exact (Array.getElem?_eq_some_iff.1 hc).1
  ·cases hs : a.spot with
   | none => rfl
   | some x => simp [hs] at h
 ·cases h
theorem trod_rd (hA : ∀ g, g < w.heap.size → A g) : ∀ (d : Nat) (t : TypeId) (sp : List Sp) (fuel : Nat) (cs : List Value) (x : DataW H × List MemPlace), spT P d t = some sp → DataW.trod enc P w 0 spare held fuel t cs = some x → Rd A w sp cs
 | 0, t, sp, fuel, cs, x, h, hx => by simp [spT] at h
 | d + 1, t, sp, fuel, cs, x, h, hx => by
  rw [spT] at h
  cases hu : P.underlying t with
  | none => simp [hu] at h
  | some u =>
   rw [hu] at h
   cases u with
   | int k =>
    simp only [Option.some.injEq] at h; subst h
    obtain ⟨n, rfl, _, hw⟩ := DataW.trod_int hu hx
    exact Rd.one (by rw [Sp.fit]; exact ⟨n, rfl, hw⟩) (.int k n)
   | bool =>
    simp only [Option.some.injEq] at h; subst h
    obtain ⟨n, rfl, _⟩ := DataW.trod_bool hu hx
    exact Rd.one (by rw [Sp.fit]; exact ⟨n, rfl⟩) (.bool n)
   | string =>
    simp only [Option.some.injEq] at h; subst h
    obtain ⟨n, rfl, _, hw⟩ := DataW.trod_string hu hx
    exact Rd.one (by rw [Sp.fit]; exact ⟨n, rfl, hw⟩) (.str n)
   | «struct» fs =>
    simp only at h
    cases h1 : spFs P (spT P d) fs.toList 0 with
    | none => simp [h1] at h
    | some l =>
     simp only [h1] at h
     cases hb : Nat.beq (P.cellsOf t) l.length with
     | false => simp [hb] at h
     | true =>
      simp only [hb, cond_true, Option.some.injEq] at h; subst h
      have e := Nat.eq_of_beq_eq_true hb
      obtain ⟨xs, n, _, _, hl, hlen, hf⟩ := DataW.trod_struct hu hx
      have := spFs_rd (A := A) (n := n) (rec := spT P d) (fun t sp cs x => trod_rd hA d t sp n cs x) cs fs.toList 0 l h1 (fun f hf' => by
       obtain ⟨i, hi, hfi⟩ := List.getElem_of_mem hf'
       have hi' : i < fs.size := by simpa using hi
       have := hf i f (by rw [Array.getElem?_eq_getElem hi']; simpa using hfi)
       rw [List.getElem?_eq_getElem (by omega)] at this
       exact ⟨_, this⟩) (by omega)
      simpa using this
   | array n e =>
    simp only at h
    cases h1 : spT P d e with
    | none => simp [h1] at h
    | some l =>
     simp only [h1] at h
     cases hb : (Nat.beq (P.cellsOf e) l.length && Nat.beq (P.cellsOf t) (n * l.length)) with
     | false => simp [hb] at h
     | true =>
      simp only [hb, cond_true, Option.some.injEq] at h; subst h
      rw [Bool.and_eq_true] at hb
      have e1 := Nat.eq_of_beq_eq_true hb.1
      have e2 := Nat.eq_of_beq_eq_true hb.2
      obtain ⟨xs, m, _, _, hl, hlen, hf⟩ := DataW.trod_array hu hx
      have := spA_rd (A := A) (n := m) (e := e) (l := l) (fun cs x hx => trod_rd hA d e l m cs x h1 hx) cs n (fun i hi => by
       have := hf i hi
       rw [List.getElem?_eq_getElem (by omega), e1] at this
       exact ⟨_, this⟩) n 0 (by omega) (by omega)
      simpa using this
   | slice e =>
    simp only at h
    cases h1 : spT P d e with
    | none => simp [h1] at h
    | some l =>
     simp only [h1] at h
     cases hb : (Nat.beq (P.cellsOf e) l.length && Nat.ble 1 l.length) with
     | false => simp [hb] at h
     | true =>
      simp only [hb, cond_true, Option.some.injEq] at h; subst h
      rw [Bool.and_eq_true] at hb
      have e1 := Nat.eq_of_beq_eq_true hb.1
      have e2 := Nat.le_of_ble_eq_true hb.2
      rcases DataW.trod_slice hu hx with ⟨rfl, _⟩ | ⟨a, len, cap, elems, rest, n, _, rfl, _, hb, hlc, hcm, hel, hE, _, _⟩
      ·exact Rd.one (x := .sl l.length []) (by rw [Sp.fit]; exact ⟨[], rfl, Nat.zero_le _, fun row h => by simp at h⟩)
        (.sl l.length [] none 0 (fun _ _ => .nilFunc) (Nat.le_refl _) (Nat.zero_le _) (fun h => absurd h (by simp)) (fun i row h => by simp at h) (fun _ _ h => by cases h) (fun i j row x h => by simp at h))
      ·have hcs : ∀ i, ∃ cs xs, i < len → w.cells? 0 (a.add (i * l.length)) l.length = some cs ∧ fitL l xs ∧ cs.length = xs.length ∧ ∀ (i : Nat) (x : D) (v : Value), xs[i]? = some x → cs[i]? = some v → DRel A w x v := by
        intro i
        by_cases hi : i < len
        ·have := hE i hi
         rw [List.getElem?_eq_getElem (by omega), Option.bind_eq_some_iff, e1] at this
         obtain ⟨cs, k1, k2⟩ := this
         obtain ⟨xs, j1, j2, j3⟩ := trod_rd hA d e l n cs _ h1 k2
         exact ⟨cs, xs, fun _ => ⟨k1, j1, j2, j3⟩⟩
        ·exact ⟨[], [], fun h => absurd h hi⟩
       obtain ⟨cf, hcf⟩ := Classical.axiomOfChoice hcs
       obtain ⟨xf, hxf⟩ := Classical.axiomOfChoice hcf
       have hadd : ∀ i, i < len → a.spot = none ∧ a.block < w.heap.size := by
        intro i hi
        have h0 := (hxf 0 (by omega)).1
        rw [Nat.zero_mul, show a.add 0 = a from rfl] at h0
        obtain ⟨_, hl0, hc0⟩ := World.cells?_some h0
        have := hc0 0 (by omega)
        rw [show a.add 0 = a from rfl, List.getElem?_eq_getElem (by omega)] at this
        exact ⟨(cell_lt this).2, (cell_lt this).1⟩
       have hL : ((List.range len).map xf).length = len := by simp
       refine Rd.one (x := .sl l.length ((List.range len).map xf)) (by
        rw [Sp.fit]
        refine ⟨_, rfl, by simp; omega, fun row hr => ?_⟩
        rw [List.mem_map] at hr
        obtain ⟨i, hi, rfl⟩ := hr
        exact (hxf i (by simpa using hi)).2.1) ?_
       have key : DRel A w (.sl l.length ((List.range len).map xf)) (.slice (some a) ((List.range len).map xf).length cap) := by
        refine .sl l.length ((List.range len).map xf) (some a) cap (fun i j => ((cf i)[j]?).getD .nilFunc) (by rw [hL]; exact hlc) hcm (fun hp => ?_) (fun i row hr => ?_) (fun g o hg i j hi hj => ?_) (fun i j row x hr hx => ?_)
        ·rw [hL] at hp
         obtain ⟨e3, e4⟩ := hadd 0 hp
         refine ⟨a.block, a.off, ?_, hA _ e4⟩
         cases a; simp_all
        ·rw [List.getElem?_map] at hr
         cases hi : (List.range len)[i]? with
         | none => simp [hi] at hr
         | some i' =>
          simp [hi] at hr; subst hr
          have : i' < len := by have := List.mem_of_getElem? hi; simpa using this
          exact fitL_len _ _ (hxf i' this).2.1
        ·rw [hL] at hi
         cases hg
         obtain ⟨k1, k2, k3, k4⟩ := hxf i hi
         obtain ⟨_, k5, k6⟩ := World.cells?_some k1
         have := k6 j hj
         rw [List.getElem?_eq_getElem (by omega)] at this ⊢
         rw [Option.getD_some, ← this]
         congr 1
         unfold Addr.add
         by_cases q1 : i * l.length = 0 <;> by_cases q2 : j = 0 <;> simp [q1, q2, Nat.add_assoc]
        ·rw [List.getElem?_map] at hr
         cases hi : (List.range len)[i]? with
         | none => simp [hi] at hr
         | some i' =>
          have e5 : i' = i := by
           have := (List.getElem?_eq_some_iff.1 hi)
           obtain ⟨_, h2⟩ := this
           simpa using h2.symm
          subst e5
          simp [hi] at hr; subst hr
          have hlt : i' < len := by have := List.mem_of_getElem? hi; simpa using this
          obtain ⟨k1, k2, k3, k4⟩ := hxf i' hlt
          have hj : j < (cf i').length := by have := (List.getElem?_eq_some_iff.1 hx).1; omega
          rw [List.getElem?_eq_getElem hj, Option.getD_some]
          exact k4 j x _ hx (List.getElem?_eq_getElem hj)
       rw [hL] at key
       exact key
   | _ => simp at h
end
end Go.Abs
namespace Go.Abs
open Go.ChangeShapes Go.WideShapes Go.ChangeAt Go.WideMaps Go.WideElems Go.RowKit
def cx0 (W : World) : Cx := ⟨fun _ => none, fun g => g < W.heap.size, fun _ => False, 0⟩
def GlOk (G : Gl) (W : World) : Prop := ∀ g row, look G g = some row → g < W.heap.size ∧ ∀ (j : Nat) (x : D), row[j]? = some x → ∃ cv, W.cell? ⟨g, j, none⟩ = some cv ∧ DRel (fun g => g < W.heap.size) W x cv
abbrev ArgR (W : World) (x : V) (v : Value) : Prop := VRel (cx0 W) (look ([] : List (Nat × Blk))) (fun r => r < 0) W x v
theorem scall_calls {P : Program} {G : Gl} {f : Nat} {vs : List V} {W : World} {args : Array Value} (h : SCall P G f vs [] 0 Fr.emp (.d (.bool true)) [] 0 Fr.emp) (hG : GlOk G W) (hlen : args.size = vs.length)
  (hv : ∀ (i : Nat) (x : V) (v : Value), vs[i]? = some x → args[i]? = some v → ArgR W x v) : Calls P f args W fun e W' => e = .returned (.bool true) ∧ Below W.heap.size W W' := by
 rw [← callsIn_wide (n := 0)]
 refine CallsIn.mono (h (cx0 W) W args hlen hv ?_) fun e W' hr => ?_
 ·exact {
   lt := fun r b h => by cases h
   pl := fun r b h => by cases h
   inj := fun r r' b b' g m m' h => by cases h
   nA := fun r b g m h => by cases h
   nO := fun r b g m h => by cases h
   AO := fun g _ h => h
   Alt := fun g h => h
   Olt := fun g h => h.elim
   fr := fun g h => h
   gl := fun g row h => hG g row h }
 ·obtain ⟨rv, c', rfl, hr, _, _, hx⟩ := hr
  have e : rv = .bool true := by cases hr with | d _ _ h => cases h; rfl
  subst e
  exact ⟨rfl, hx.os, hx.tape, hx.output, hx.size, fun k hk => hx.same k hk (fun r b m h => by cases h) (fun h => h)⟩
section
variable {H : Type} {enc : TypeId × Value → H} {P : Program} {W W' : World}
theorem trodAll_stays (hl : laidOutB P = true) (hb : Below W.heap.size W W') (sp : Nat → Bool) : ∀ (ts : List TypeId) (vs : List Value) (ds : List (DataW H)) (ps : List MemPlace), (ts.all fun t => P.readableRec t && decide (t < P.types.size)) = true →
  DataW.TrodAll enc P W 0 (fun _ => true) true ts vs ds ps → (∀ x, x ∈ ps → x.block < W.heap.size ∧ sp x.block = true) → DataW.TrodAll enc P W' 0 sp true ts vs ds ps
 | [], [], [], ps, _, h, _ => h
 | t :: ts, v :: vs, d :: ds, ps, hr, h, hp => by
  obtain ⟨p, q, h1, h2, rfl⟩ := h
  simp only [List.all_cons, Bool.and_eq_true, decide_eq_true_eq] at hr
  exact ⟨p, q, WideElems.Trod_stays hl hr.1.1 hr.1.2 h1 (fun x hx => hb.same (hp x (by simp [hx])).1) (fun x hx => (hp x (by simp [hx])).2),
   trodAll_stays hl hb sp ts vs ds q (by simpa using hr.2) h2 (fun x hx => hp x (by simp [hx])), rfl⟩
 | [], [], _ :: _, _, _, h, _ => h.elim
 | [], _ :: _, _, _, _, h, _ => h.elim
 | _ :: _, [], _, _, _, h, _ => h.elim
 | _ :: _, _ :: _, [], _, _, h, _ => h.elim
theorem trodAll_len : ∀ (ts : List TypeId) (vs : List Value) (ds : List (DataW H)) (ps : List MemPlace), DataW.TrodAll enc P W 0 (fun _ => true) true ts vs ds ps → ds.length = ts.length
 | [], [], [], ps, h => rfl
 | t :: ts, v :: vs, d :: ds, ps, h => by obtain ⟨p, q, h1, h2, rfl⟩ := h; simp [trodAll_len ts vs ds q h2]
 | [], [], _ :: _, _, h => h.elim
 | [], _ :: _, _, _, h => h.elim
 | _ :: _, [], _, _, h => h.elim
 | _ :: _, _ :: _, [], _, h => h.elim
theorem card_post {fn : Func} {s : ChangeSpec} {args : Array Value} {ds gs : List (DataW H)} {before : List MemPlace} {tb : TypeId} (hl : laidOutB P = true) (hb : Below W.heap.size W W')
  (hr : (fn.params.toList.all fun t => P.readableRec t && decide (t < P.types.size)) = true) (hsv : s.vars = []) (hfn : ∀ l : List (DataW H), l.length = fn.params.toList.length → s.fn H l = { results := [.lit (.bool true)], args := l })
  (hres : fn.resultTypes = #[tb]) (htb : P.underlying tb = some .bool) (hW : DataW.Whole enc P fn.params.toList s.vars false W args.toList ds gs before) :
  s.post enc P fn false true false false W args (.bool true) W' := by
 have hlt := hW.lt
 have hW' := hW
 obtain ⟨p, q, hA, hV, rfl, _, _⟩ := hW
 rw [hsv] at hV
 obtain ⟨rfl, rfl⟩ := trodVars_none hV
 have e := hfn ds (trodAll_len _ _ _ _ hA)
 refine ⟨ds, [], p ++ [], [], p, [], hW', ?_, ?_, ?_, hb.frame _, fun h => by cases h⟩
 ·rw [List.append_nil, e, hres]
  exact trodAll_mk1 (shut_bool htb _)
 ·rw [List.append_nil, e]
  exact trodAll_stays hl hb _ _ _ _ _ hr hA (fun x hx => ⟨by simpa using hlt x (by simp [hx]), by simpa using hlt x (by simp [hx])⟩)
 ·rw [List.append_nil, e, hsv]
  rfl
theorem arg_agg {r : Reach} {b0 : Nat} {t : TypeId} {u : TypeDesc} {sp : List Sp} {v : Value} {d : DataW H} {ps : List MemPlace} (ht : P.underlying t = some u) (hu : aggD u = true) (n : Nat) (hsp : spT P n t = some sp) (hval : Value.okWide P W r b0 t v) (hd : DataW.Trod enc P W 0 (fun _ => true) true t v d ps) :
  ∃ xs, fitL sp xs ∧ ArgR W (.agg (xs.map .d)) v := by
 obtain ⟨fuel, hd⟩ := hd
 obtain ⟨xs, h1, h2, h3⟩ := trod_rd (A := fun g => g < W.heap.size) (fun _ h => h) n t sp fuel _ _ hsp hd
 have : ∃ cs, v = .agg cs := by
  unfold Value.okWide at hval
  rw [ht] at hval
  cases u <;> simp [aggD] at hu
  ·obtain ⟨cs, h, _⟩ := hval; exact ⟨cs, h⟩
  ·obtain ⟨cs, h, _⟩ := hval; exact ⟨cs, h⟩
 obtain ⟨cs, rfl⟩ := this
 refine ⟨xs, h1, ?_⟩
 have hk : ∀ (i : Nat) (x : V) (v : Value), (xs.map V.d)[i]? = some x → cs.toList[i]? = some v → ArgR W x v := by
  intro i x v hx hv
  rw [List.getElem?_map] at hx
  cases hy : xs[i]? with
  | none => simp [hy] at hx
  | some y =>
   simp [hy] at hx; subst hx
   exact .d _ _ (h3 i y v hy hv)
 have := VRel.agg (c := cx0 W) (H := look ([] : List (Nat × Blk))) (U := fun r => r < 0) (w := W) (xs.map .d) cs.toList (by simpa [Value.cells] using h2) hk (fun v hv => by
  obtain ⟨i, hi, rfl⟩ := List.getElem_of_mem hv
  have h2' : cs.toList.length = xs.length := h2
  exact (h3 i _ _ (List.getElem?_eq_getElem (by omega)) (List.getElem?_eq_getElem hi)).oneCell)
 exact this
end
end Go.Abs
