/- The framework: what a piece of code does to told states, part 4. Conditions: none. -/
import Derived.Test.YthjogmcdfokihaaDoorFwc
import Derived.CallsIn
import Derived.OrdersIn
import Derived.Below
import Derived.Laws.World
import Derived.Laws.Cells
import Derived.Laws.Entries
import Derived.Laws.CopyRow
import Derived.IntWalk
import Derived.RangeFuncRecord
import Derived.RangeFuncLeaves
import Derived.KernelRfl
import Derived.Maps.AppendAt
import Derived.Laws.MakeOwn
import Derived.Laws.StructEq
import Derived.ChangeKeysEq
import Derived.MapKept
import Derived.ProofKit
import Derived.OpenShut
import Derived.LaidMore
import Derived.Lib.SliceRun
set_option linter.unusedVariables false
set_option linter.unusedSimpArgs false
namespace Go.Abs
def V.ren (ρ:Nat→Nat):V→V
 | .ptr r off=>.ptr (ρ r) off
 | .vsl r off n k=>.vsl (ρ r) off n k
 | .asl r n=>.asl (ρ r) n
 | .aptr r off=>.aptr (ρ r) off
 | .eptr r n i off=>.eptr (ρ r) n i off
 | .own r n=>.own (ρ r) n
 | .map r=>.map (ρ r)
 | .clo f first caps=>.clo f (rens ρ first) (rens ρ caps)
 | .agg cs=>.agg (rens ρ cs)
 | .tup cs=>.tup (rens ρ cs)
 | v=>v
where rens (ρ:Nat→Nat):List V→List V
 | []=>[]
 | v::vs=>V.ren ρ v::rens ρ vs
theorem rens_map (ρ:Nat→Nat):∀ vs:List V,V.ren.rens ρ vs=vs.map (V.ren ρ)
 | []=>rfl
 | v::vs=>by simp only [V.ren.rens,List.map_cons,rens_map ρ vs]
def Blk.ren (ρ:Nat→Nat):Blk→Blk
 | .var T cs=>.var T (V.ren.rens ρ cs)
 | .arr T cs=>.arr T (V.ren.rens ρ cs)
 | b=>b
def V.ownIn (dom:Nat→Bool):V→Bool
 | .own r _=>dom r
 | .asl r _=>dom r
 | .aptr _ _=>false
 | .eptr _ _ _ _=>false
 | .clo _ first caps=>ownIns dom first&&ownIns dom caps
 | .agg cs=>ownIns dom cs
 | .tup cs=>ownIns dom cs
 | _=>true
where ownIns (dom:Nat→Bool):List V→Bool
 | []=>true
 | v::vs=>V.ownIn dom v&&ownIns dom vs
theorem ownIns_get {dom:Nat→Bool}:∀ (cs:List V) (i:Nat) x,V.ownIn.ownIns dom cs=true→cs[i]?=some x→x.ownIn dom=true:=by
 intro cs
 induction cs with
 | nil=>intro i x _ hx;simp at hx
 | cons y ys ih=>
  intro i x hb hx
  simp only [V.ownIn.ownIns,Bool.and_eq_true] at hb
  cases i with
  | zero=>simp at hx;subst hx;exact hb.1
  | succ i=>exact ih i x hb.2 (by simpa using hx)
def Blk.lend:Blk→Bool
 | .var _ _=>true
 | .mp _=>true
 | _=>false
def Blk.ownIn (dom:Nat→Bool):Blk→Bool
 | .var _ cs=>V.ownIn.ownIns dom cs
 | .arr _ cs=>V.ownIn.ownIns dom cs
 | _=>true
def Blk.fresh:Blk→Bool
 | .row _ _ _=>true
 | .arr _ _=>true
 | _=>false
theorem ren_in {c c0:Cx} {H H0:Hp} {U:Nat→Prop} {n0:Nat} {w:World} {ρ:Nat→Nat} (hfm:∀ q,c0.fm q=c.fm (ρ q)) (hA:∀ g,c.A g→c0.A g) (hy:c0.y=c.y) (hH:∀ q b,H0 q=some b→H (ρ q)=some (b.ren ρ)) :
  ∀ {v:V} {cv:Value},v.okR n0 (fun q=>(H0 q).isSome)=true→VRel c H U w (v.ren ρ) cv→VRel c0 H0 (fun r=>r<n0) w v cv:=by
 intro v
 have list:∀ (cs:List V),(∀ x∈cs,∀ {cv:Value},x.okR n0 (fun q=>(H0 q).isSome)=true→VRel c H U w (x.ren ρ) cv→VRel c0 H0 (fun r=>r<n0) w x cv)→V.okR.okRs n0 (fun q=>(H0 q).isSome) cs=true→∀ (vs:List Value),(∀ (i:Nat) x v,(V.ren.rens ρ cs)[i]?=some x→vs[i]?=some v→VRel c H U w x v) →
   ∀ (i:Nat) x v,cs[i]?=some x→vs[i]?=some v→VRel c0 H0 (fun r=>r<n0) w x v:=fun cs ih hok vs h i x v hx hv=>
  ih x (List.mem_of_getElem? hx) (okRs_get _ i x hok hx) (h i (x.ren ρ) v (by rw [rens_map,List.getElem?_map,hx];rfl) hv)
 have len:∀ cs:List V,(V.ren.rens ρ cs).length=cs.length:=fun cs=>by rw [rens_map,List.length_map]
 induction v using V.rec (motive_2:=fun cs=>∀ x∈cs,∀ {cv:Value},x.okR n0 (fun q=>(H0 q).isSome)=true→VRel c H U w (x.ren ρ) cv→VRel c0 H0 (fun r=>r<n0) w x cv) with
 | undef=>intro cv hok h;cases h;exact .undef
 | d x=>intro cv hok h;cases h with | d _ _ h=>exact .d x _ (h.mono hA (fun _ _=>rfl))
 | fp row off=>intro cv hok h;cases h with | fp _ _ b o hb h=>exact .fp row off b o (hA _ hb) (fun j x hj=>let ⟨cv,h1,h2⟩:=h j x hj;⟨cv,h1,h2.mono hA (fun _ _=>rfl)⟩)
 | ptr r off=>
  intro cv hok h
  simp only [V.okR] at hok
  obtain ⟨b,hb⟩:=Option.isSome_iff_exists.1 hok
  cases h with
  | ptr _ _ T g m cs hr hf=>
   have hr':=hH r b hb
   rw [hr] at hr'
   cases b with
   | var T' cs'=>exact .ptr r off T' g m cs' hb ((hfm r).trans hf)
   | _=>cases hr'
 | vsl r off n k=>
  intro cv hok h
  simp only [V.okR] at hok
  obtain ⟨b,hb⟩:=Option.isSome_iff_exists.1 hok
  cases h with
  | vsl _ _ _ _ T g m cs hb0 hr hf=>
   have hr':=hH r b hb
   rw [hr] at hr'
   cases b with
   | var T' cs'=>exact .vsl r off n k T' g m cs' hb0 hb ((hfm r).trans hf)
   | _=>cases hr'
 | eptr r n i off=>
  intro cv hok h
  simp only [V.okR] at hok
  cases h with
  | eptr _ _ _ _ ad hr hn hp=>
   refine .eptr r n i off ad (Nat.le_of_ble_eq_true hok) (fun T es xs hx=>hn T es xs (hH r _ hx)) (fun T es xs hx hl=>?_)
   obtain ⟨g,m,h1,h2⟩:=hp T es xs (hH r _ hx) hl
   exact ⟨g,m,(hfm r).trans h1,h2⟩
 | asl r n=>
  intro cv hok h
  simp only [V.okR] at hok
  cases h with
  | asl _ _ ad hr hb hp=>
   refine .asl r n ad (Nat.le_of_ble_eq_true hok) hb (fun T cs hx=>?_)
   obtain ⟨g,m,h1,h2⟩:=hp T _ (hH r _ hx)
   exact ⟨g,m,(hfm r).trans h1,h2⟩
 | aptr r off=>
  intro cv hok h
  simp only [V.okR] at hok
  cases h with
  | aptr _ _ ad hr hp=>
   refine .aptr r off ad (Nat.le_of_ble_eq_true hok) (fun T cs hx=>?_)
   obtain ⟨g,m,h1,h2⟩:=hp T _ (hH r _ hx)
   exact ⟨g,m,(hfm r).trans h1,h2⟩
 | own r n=>
  intro cv hok h
  simp only [V.okR] at hok
  cases h with
  | own _ _ a m hr hb hn hp=>
   refine .own r n a m (Nat.le_of_ble_eq_true hok) hb (fun T es xs hx=>hn T es xs (hH r _ hx)) (fun T es xs hx hl=>?_)
   rcases hp T es xs (hH r _ hx) hl with ⟨g,h1,h2⟩ | ⟨h1,h2⟩
   ·exact .inl ⟨g,(hfm r).trans h1,h2⟩
   ·exact .inr ⟨(hfm r).trans h1,h2⟩
 | map r=>
  intro cv hok h
  simp only [V.okR] at hok
  obtain ⟨b,hb⟩:=Option.isSome_iff_exists.1 hok
  cases h with
  | map _ g m es hr hf=>
   have hr':=hH r b hb
   rw [hr] at hr'
   cases b with
   | mp es'=>exact .map r g m es' hb ((hfm r).trans hf)
   | _=>cases hr'
 | clo f first caps ih1 ih2=>
  intro cv hok h
  simp only [V.okR,Bool.and_eq_true] at hok
  cases h with
  | clo _ _ _ fs cs hf hc h1 h2=>exact .clo f first caps fs cs (hf.trans (len _)) (hc.trans (len _)) (list first ih1 hok.1 fs h1) (list caps ih2 hok.2 cs h2)
 | wmp g=>intro cv hok h;cases h;exact .wmp g
 | yld=>intro cv hok h;cases h;rw [← hy];exact .yld
 | opq=>intro cv hok h;cases h with | opq _ h=>exact .opq _ h
 | fsl es xs=>intro cv hok h;cases h with | fsl _ _ a h=>exact .fsl es xs a (h.mono hA (fun _ _=>rfl))
 | fmp es=>intro cv hok h;cases h with | fmp _ g en clock hA0 hg hsz hen=>exact .fmp es g en clock (hA g hA0) hg hsz (fun i k v e h1 h2=>⟨(hen i k v e h1 h2).1.mono hA (fun _ _=>rfl),(hen i k v e h1 h2).2.mono hA (fun _ _=>rfl)⟩)
 | agg cs ih=>
  intro cv hok h
  simp only [V.okR] at hok
  cases h with
  | agg _ vs hl h h1=>exact .agg cs vs (hl.trans (len _)) (list cs ih hok vs h) h1
 | tup cs ih=>
  intro cv hok h
  simp only [V.okR] at hok
  cases h with
  | tup _ vs hl h=>exact .tup cs vs (hl.trans (len _)) (list cs ih hok vs h)
 | nil=>rename_i x hx cv hok h;cases hx
 | cons v vs ih1 ih2=>
  rename_i x hx cv hok h
  rcases List.mem_cons.1 hx with rfl | hx
  ·exact ih1 hok h
  ·exact ih2 x hx hok h
theorem ren_out {c1 c:Cx} {H1 H:Hp} {U1 U:Nat→Prop} {w:World} {ρ:Nat→Nat} (hU:∀ q b,H1 q=some b→U (ρ q)) (hfm:∀ q b,H1 q=some b→c.fm (ρ q)=c1.fm q) (hA:∀ g,c1.A g→c.A g) (hy:c.y=c1.y) (hH:∀ q b,H1 q=some b→H (ρ q)=some (b.ren ρ)) {v:V} {cv:Value}
  (h:VRel c1 H1 U1 w v cv) (hno:v.ownIn (fun q=>(H1 q).isSome)=true):VRel c H U w (v.ren ρ) cv:=by
 have len:∀ cs:List V,(V.ren.rens ρ cs).length=cs.length:=fun cs=>by rw [rens_map,List.length_map]
 have list:∀ (cs:List V) (vs:List Value),V.ownIn.ownIns (fun q=>(H1 q).isSome) cs=true→(∀ (i:Nat) x v,cs[i]?=some x→vs[i]?=some v→x.ownIn (fun q=>(H1 q).isSome)=true→VRel c H U w (x.ren ρ) v)→∀ (i:Nat) x v,(V.ren.rens ρ cs)[i]?=some x→vs[i]?=some v→VRel c H U w x v:=fun cs vs hn h i x v hx hv=>by
  rw [rens_map,List.getElem?_map,Option.map_eq_some_iff] at hx
  obtain ⟨y,hy,rfl⟩:=hx
  exact h i y v hy hv (ownIns_get _ i y hn hy)
 induction h with
 | undef=>exact .undef
 | d x v h=>exact .d x _ (h.mono hA (fun _ _=>rfl))
 | fp row off b o hb h=>exact .fp row off b o (hA _ hb) (fun j x hj=>let ⟨cv,h1,h2⟩:=h j x hj;⟨cv,h1,h2.mono hA (fun _ _=>rfl)⟩)
 | ptr r off T g m cs hr hf=>exact .ptr (ρ r) off T g m _ (hH r _ hr) ((hfm r _ hr).trans hf)
 | vsl r off n k T g m cs hb hr hf=>exact .vsl (ρ r) off n k T g m _ hb (hH r _ hr) ((hfm r _ hr).trans hf)
 | eptr=>simp [V.ownIn] at hno
 | aptr=>simp [V.ownIn] at hno
 | asl r n ad hr hb hp=>
  simp only [V.ownIn] at hno
  obtain ⟨b0,hb0⟩:=Option.isSome_iff_exists.1 hno
  refine .asl (ρ r) n ad (hU r b0 hb0) hb (fun T cs hx=>?_)
  have:=hH r b0 hb0
  rw [hx] at this
  cases b0 with
  | arr T' cs'=>
   obtain ⟨g,m,h1,h2⟩:=hp T' cs' hb0
   exact ⟨g,m,(hfm r _ hb0).trans h1,h2⟩
  | _=>simp only [Blk.ren] at this;cases this
 | own r n a m hr hb hn hp=>
  simp only [V.ownIn] at hno
  obtain ⟨b0,hb0⟩:=Option.isSome_iff_exists.1 hno
  have back:∀ T es xs,H (ρ r)=some (.row T es xs)→H1 r=some (.row T es xs):=fun T es xs hx=>by
   have:=hH r b0 hb0
   rw [hx] at this
   cases b0 with
   | var T' cs'=>simp only [Blk.ren] at this;cases this
   | row=>simp only [Blk.ren] at this;rw [hb0,Option.some.inj this]
   | mp=>simp only [Blk.ren] at this;cases this
   | dm=>simp only [Blk.ren] at this;cases this
   | dead=>simp only [Blk.ren] at this;cases this
   | arr=>simp only [Blk.ren] at this;cases this
  refine .own (ρ r) n a m (hU r b0 hb0) hb (fun T es xs hx=>hn T es xs (back T es xs hx)) (fun T es xs hx hl=>?_)
  rcases hp T es xs (back T es xs hx) hl with ⟨g,h1,h2⟩ | ⟨h1,h2⟩
  ·exact .inl ⟨g,(hfm r b0 hb0).trans h1,h2⟩
  ·exact .inr ⟨(hfm r b0 hb0).trans h1,h2⟩
 | map r g m es hr hf=>exact .map (ρ r) g m es (hH r _ hr) ((hfm r _ hr).trans hf)
 | clo f first caps fs cs hf hc h1 h2 ih1 ih2=>
  simp only [V.ownIn,Bool.and_eq_true] at hno
  exact .clo f _ _ fs cs (hf.trans (len _).symm) (hc.trans (len _).symm) (list first fs hno.1 ih1) (list caps cs hno.2 ih2)
 | wmp g=>exact .wmp g
 | yld=>rw [← hy];exact .yld
 | opq v h=>exact .opq _ h
 | fsl es xs a h=>exact .fsl es xs a (h.mono hA (fun _ _=>rfl))
 | fmp es g en clock hA0 hg hsz hen=>exact .fmp es g en clock (hA g hA0) hg hsz (fun i k v e h1 h2=>⟨(hen i k v e h1 h2).1.mono hA (fun _ _=>rfl),(hen i k v e h1 h2).2.mono hA (fun _ _=>rfl)⟩)
 | agg cs vs hl h h1 ih=>simp only [V.ownIn] at hno;exact .agg _ vs (hl.trans (len _).symm) (list cs vs hno ih) h1
 | tup cs vs hl h ih=>simp only [V.ownIn] at hno;exact .tup _ vs (hl.trans (len _).symm) (list cs vs hno ih)
section
variable {P:Program} {G:Gl} {nt:Nat}
theorem SCall.frame {f:Nat} {vs:List V} {H:List (Nat×Blk)} {nx:Nat} {r:V} {H':List (Nat×Blk)} {nx':Nat} (h:SCall P G f vs H nx Fr.emp r H' nx' Fr.emp) (fr:Fr):SCall P G f vs H nx fr r H' nx' fr:=by
 intro c w args hsz hargs hH
 let c0:Cx:={ c with O:=fun _=>False }
 have hs0:HStep c (look H) (fun r=>r<nx) c0 (look H) (fun r=>r<nx):=⟨fun _ h=>h,rfl,fun _ h=>h,fun r T cs hr=>⟨rfl,cs,hr⟩,fun r T es xs _ hr=>⟨xs,hr,Nat.le_refl _,fun _=>rfl⟩,fun r es hr=>⟨rfl,es,hr⟩,fun r hr=>⟨rfl,hr⟩,fun r T cs _ hr=>⟨cs,hr,rfl⟩⟩
 have hH0:HRel G c0 (look H) (fun r=>r<nx) Fr.emp w:=⟨hH.lt,fun r b hr=>(hH.pl r b hr).imp (fun ⟨g,m,hf,hB⟩=>⟨g,m,hf,hB.mono rfl (fun _ _=>rfl) hs0⟩) id,hH.inj,hH.nA,fun _ _ _ _ _ _ h=>h,fun _ _ h=>h,hH.Alt,fun _ h=>h.elim,fun _ h=>h,hH.gl⟩
 refine CallsIn.mono (h c0 w args hsz (fun i x v hx hv=>(hargs i x v hx hv).mono (fun _ _=>rfl) hs0) hH0) ?_
 rintro e w' ⟨rv,c',rfl,hv,hs,hh,hx⟩
 let c2:Cx:={ c' with O:=c.O }
 have hs2:HStep c' (look H') (fun r=>r<nx') c2 (look H') (fun r=>r<nx'):=⟨fun _ h=>h,rfl,fun _ h=>h,fun r T cs hr=>⟨rfl,cs,hr⟩,fun r T es xs _ hr=>⟨xs,hr,Nat.le_refl _,fun _=>rfl⟩,fun r es hr=>⟨rfl,es,hr⟩,fun r hr=>⟨rfl,hr⟩,fun r T cs _ hr=>⟨cs,hr,rfl⟩⟩
 have own:∀ g,c.O g→∀ r b m,look H r=some b→c.fm r≠some (g,m):=fun g hg r b m hr hf=>hH.nO r b g m hr hf hg
 have hOw:∀ g,c.O g→w'.heap[g]?=w.heap[g]?:=fun g hg=>hx.same g (hH.Olt g hg) (own g hg) (fun h=>h)
 refine ⟨rv,c2,rfl,hv.mono (fun _ _=>rfl) hs2,⟨hs.hU,hs.hy,hs.hA,hs.var,hs.row,hs.mp,hs.dm,hs.arr⟩,⟨hh.lt,fun r b hr=>(hh.pl r b hr).imp (fun ⟨g,m,hf,hB⟩=>⟨g,m,hf,hB.mono rfl (fun _ _=>rfl) hs2⟩) id,hh.inj,hh.nA,fun r b g m hr hf hg=>?_,fun g ha hg=>?_,hh.Alt,fun g hg=>Nat.lt_of_lt_of_le (hH.Olt g hg) hx.size,?_,hh.gl⟩,
  ⟨hx.os,hx.tape,hx.output,hx.size,hx.hy,fun g hg hn _=>hx.same g hg hn (fun h=>h),fun r b g m hr hf=>(hx.pl r b g m hr hf).imp id (Or.imp (fun h=>h.elim) id),hx.A,fun g hg=>(hx.A' g hg).imp id (Or.imp id (Or.imp (fun h=>h.elim) id)),fun g hg=>.inr (.inl hg)⟩⟩
 ·rcases hx.pl r b g m hr hf with h1 | h1 | ⟨r0,b0,m0,h1,h2⟩
  ·have:=hH.Olt g hg;omega
  ·exact h1
  ·exact own g hg _ _ _ h1 h2
 ·rcases hx.A' g ha with h1 | h1 | h1 | ⟨r0,b0,m0,h1,h2⟩
  ·exact hH.AO g h1 hg
  ·have:=hH.Olt g hg;omega
  ·exact h1
  ·exact own g hg _ _ _ h1 h2
 ·have:=hH.fr
  show fr.P c'.y c'.A c.O w'
  have hy:c'.y=c.y:=hs.hy
  rw [hy]
  exact fr.mono _ _ _ _ _ _ this hx.A (fun g hg=>hg.elim (fun ha=>hx.same g (hH.Alt g ha) (fun r b m hr hf=>hH.nA r b g m hr hf ha) (fun h=>h)) (hOw g))
inductive Callee:V→Nat→List V→List V→Prop where
 | clo (f:Nat) (first caps:List V):Callee (.clo f first caps) f first caps
 | fn (f:Nat):Callee (.d (.fn f)) f [] []
def renL (ρ:Nat→Nat):List (Nat×Blk)→List (Nat×Blk)
 | []=>[]
 | (q,b)::l=>(ρ q,b.ren ρ)::renL ρ l
def invL (ρ:Nat→Nat):List (Nat×Blk)→List (Nat×Nat)
 | []=>[]
 | (q,b)::l=>(ρ q,q)::invL ρ l
def deadL:List Nat→List (Nat×Blk)
 | []=>[]
 | z::zs=>(z,.dead)::deadL zs
theorem hpOf_look (H:Hp):∀ (l:List (Nat×Blk)) (n:Nat),hpOf l H n=match look l n with | some b=>some b | none=>H n
 | [],n=>rfl
 | (k,b)::l,n=>by
  simp only [hpOf,look_cons]
  by_cases e:k=n
  ·subst e;rw [upd_same,if_pos rfl]
  ·rw [upd_other _ _ _ _ e,if_neg e];exact hpOf_look H l n
theorem look_append {α:Type}:∀ (l m:List (Nat×α)) (n:Nat),look (l++m) n=match look l n with | some b=>some b | none=>look m n
 | [],m,n=>rfl
 | (k,b)::l,m,n=>by
  rw [List.cons_append,look_cons,look_cons]
  by_cases e:k=n
  ·rw [if_pos e,if_pos e]
  ·rw [if_neg e,if_neg e];exact look_append l m n
theorem look_dead:∀ (zs:List Nat) (n:Nat),look (deadL zs) n=if n∈zs then some .dead else none
 | [],n=>rfl
 | z::zs,n=>by
  simp only [deadL,look_cons,look_dead zs n,List.mem_cons]
  by_cases e:z=n
  ·simp [e]
  ·simp [e,Ne.symm e]
theorem look_some_mem {α:Type}:∀ {l:List (Nat×α)} {k:Nat} {v:α},(k,v)∈l→(look l k).isSome=true
 | (k',v')::l,k,v,h=>by
  rw [look_cons]
  by_cases e:k'=k
  ·rw [if_pos e];rfl
  ·rw [if_neg e]
   cases h with
   | head=>exact absurd rfl e
   | tail _ h=>exact look_some_mem h
theorem look_ren {ρ:Nat→Nat}:∀ {l:List (Nat×Blk)},(∀ q q' b b',(q,b)∈l→(q',b')∈l→ρ q=ρ q'→q=q')→∀ q b,look l q=some b→look (renL ρ l) (ρ q)=some (b.ren ρ)∧look (invL ρ l) (ρ q)=some q
 | [],_,q,b,h=>by cases h
 | (k,v)::l,hi,q,b,h=>by
  rw [look_cons] at h
  simp only [renL,invL,look_cons]
  by_cases e:k=q
  ·subst e;rw [if_pos rfl] at h;cases h
   exact ⟨if_pos rfl,if_pos rfl⟩
  ·rw [if_neg e] at h
   have hm:∃ b',(q,b')∈l:=by
    clear hi
    induction l with
    | nil=>cases h
    | cons p l ih=>
     obtain ⟨k',v'⟩:=p
     rw [look_cons] at h
     by_cases e':k'=q
     ·subst e';exact ⟨v',by simp⟩
     ·rw [if_neg e'] at h;obtain ⟨b',hb'⟩:=ih h;exact ⟨b',by simp [hb']⟩
   obtain ⟨b',hb'⟩:=hm
   have hne:ρ k≠ρ q:=fun e'=>e (hi k q v b' (by simp) (by simp [hb']) e')
   rw [if_neg hne,if_neg hne]
   exact look_ren (fun q q' b b' h1 h2=>hi q q' b b' (by simp [h1]) (by simp [h2])) q b h
theorem look_ren' {ρ:Nat→Nat}:∀ {l:List (Nat×Blk)} {n:Nat} {b':Blk},look (renL ρ l) n=some b'→∃ q b,(q,b)∈l∧ρ q=n
 | [],n,b',h=>by cases h
 | (k,v)::l,n,b',h=>by
  simp only [renL,look_cons] at h
  by_cases e:ρ k=n
  ·exact ⟨k,v,by simp,e⟩
  ·rw [if_neg e] at h;obtain ⟨q,b,h1,h2⟩:=look_ren' h;exact ⟨q,b,by simp [h1],h2⟩
theorem look_inv' {ρ:Nat→Nat}:∀ {l:List (Nat×Blk)} {n q:Nat},look (invL ρ l) n=some q→ρ q=n∧(look l q).isSome=true
 | [],n,q,h=>by cases h
 | (k,v)::l,n,q,h=>by
  simp only [invL,look_cons] at h
  by_cases e:ρ k=n
  ·rw [if_pos e] at h;cases h;exact ⟨e,by rw [look_cons,if_pos rfl];rfl⟩
  ·rw [if_neg e] at h
   obtain ⟨h1,h2⟩:=look_inv' h
   refine ⟨h1,?_⟩
   rw [look_cons]
   by_cases e':k=q
   ·rw [if_pos e'];rfl
   ·rw [if_neg e'];exact h2
structure Lend (ρ:Nat→Nat) (H0:List (Nat×Blk)) (n0:Nat) (H1:List (Nat×Blk)) (n1:Nat) (zs nw:List Nat):Prop where
 lend0:∀ q b,look H0 q=some b→q<n0∧b.lend=true∧b.okR n0 (fun q=>(look H0 q).isSome)=true
 lend1:∀ q b,look H1 q=some b→(b.lend=true∨b.fresh=true∧n0≤q)∧b.ownIn (fun q=>(look H1 q).isSome)=true∧(q<n0→(look H0 q).isSome=true)
 keep:∀ q,(look H0 q).isSome=true→(look H1 q).isSome=true
 inj:∀ q q',(look H1 q).isSome=true→(look H1 q').isSome=true→ρ q=ρ q'→q=q'
 new:∀ q,n0≤q→(look H1 q).isSome=true→ρ q∈nw
 zs:∀ q,(look H1 q).isSome=true→ρ q ∉ zs
def cxAft (c c1:Cx) (ρ:Nat→Nat) (H1:List (Nat×Blk)) (zs:List Nat):Cx:=
 { fm:=fun n=>match look (invL ρ H1) n with | some q=>c1.fm q | none=>if n∈zs then none else c.fm n,A:=c1.A,O:=c1.O,y:=c1.y }
theorem call_core {C:Nat→Array Value→World→(Ending→World→Prop)→Prop} (hC:∀ y args w (R R':Ending→World→Prop),C y args w R→(∀ e w',R e w'→R' e w')→C y args w R') {vs0:List V} {H0:List (Nat×Blk)} {n0:Nat} {fr fr':Fr} {r0:V} {H1:List (Nat×Blk)} {n1:Nat} (h:GCall G C vs0 H0 n0 fr r0 H1 n1 fr') {ρ:Nat→Nat} {zs nw:List Nat} (hl:Lend ρ H0 n0 H1 n1 zs nw)
  {c:Cx} {H:Hp} {U:Nat→Prop} {w:World} (hh:HRel G c H U fr w) (hb:∀ q b,look H0 q=some b→H (ρ q)=some (b.ren ρ)) {Hz:Hp} (hzsub:∀ q b,Hz q=some b→H q=some b) (hzs:∀ q b,Hz q=some b→q∈zs) (hzz:∀ z∈zs,∃ T es xs,H z=some (.row T es xs)) (hnw:∀ r∈nw,¬ U r)
  {vs:List V} {args:Array Value} (hsz:args.size=vs.length) (hargs:∀ (i:Nat) x v,vs[i]?=some x→args[i]?=some v→VRel c H U w x v) (hz:FrzL Hz vs (V.ren.rens ρ vs0)) (hok:V.okR.okRs n0 (fun q=>(look H0 q).isSome) vs0=true) (hno:r0.ownIn (fun q=>(look H1 q).isSome)=true) :
  C c.y args w fun e w'=>∃ rv c1,e=.returned rv∧VRel (cxAft c c1 ρ H1 zs) (hpOf (renL ρ H1++deadL zs) H) (usOf nw U) w' (r0.ren ρ) rv∧HStep c H U (cxAft c c1 ρ H1 zs) (hpOf (renL ρ H1++deadL zs) H) (usOf nw U) ∧
   HRel G (cxAft c c1 ρ H1 zs) (hpOf (renL ρ H1++deadL zs) H) (usOf nw U) fr' w'∧Ext c H w (cxAft c c1 ρ H1 zs) (hpOf (renL ρ H1++deadL zs) H) w':=by
 obtain ⟨hzl,hzg⟩:=hz.get
 rw [rens_map,List.length_map] at hzl
 let A0:Nat→Prop:=fun g=>c.A g∨Taken c Hz g
 let c0:Cx:={ fm:=fun q=>c.fm (ρ q),A:=A0,O:=c.O,y:=c.y }
 have hT:∀ g,Taken c Hz g→g<w.heap.size∧¬ c.O g∧∃ r b m,H r=some b∧c.fm r=some (g,m):=by
  rintro g ⟨q,T,es,xs,m,h1,h2⟩
  obtain ⟨g',m',h3,cur,h4,_⟩:=(hh.pl q _ (hzsub _ _ h1)).resolve_right (fun hn=>by rw [h2] at hn;cases hn.1)
  rw [h2] at h3;cases h3
  exact ⟨(Array.getElem?_eq_some_iff.1 h4).1,hh.nO _ _ _ _ (hzsub _ _ h1) h2,q,_,m,hzsub _ _ h1,h2⟩
 have hinj0:∀ q q' b b',look H0 q=some b→look H0 q'=some b'→ρ q=ρ q'→q=q':=fun q q' b b' h1 h2 e=>hl.inj q q' (hl.keep q (by rw [h1];rfl)) (hl.keep q' (by rw [h2];rfl)) e
 have hs0:HStep c H U { c with A:=A0 } H U:=⟨fun _ h=>h,rfl,fun g hg=>.inl hg,fun r T cs hr=>⟨rfl,cs,hr⟩,fun r T es xs _ hr=>⟨xs,hr,Nat.le_refl _,fun _=>rfl⟩,fun r es hr=>⟨rfl,es,hr⟩,fun r hr=>⟨rfl,hr⟩,fun r T cs _ hr=>⟨cs,hr,rfl⟩⟩
 have hblt:∀ r b g m,H r=some b→c.fm r=some (g,m)→g<w.heap.size:=fun r b g m h0 hf0=>by
  obtain ⟨g1,m1,hf1,hb1⟩:=(hh.pl r b h0).resolve_right (fun hn=>(by rw [hf0] at hn;cases hn.1))
  rw [hf0] at hf1;cases hf1
  cases b with
  | var T cs=>obtain ⟨cur,hc,_⟩:=hb1;exact (Array.getElem?_eq_some_iff.1 hc).1
  | row T es xs=>obtain ⟨cur,hc,_⟩:=hb1;exact (Array.getElem?_eq_some_iff.1 hc).1
  | mp es=>obtain ⟨en,cl,hc,_⟩:=hb1;exact (Array.getElem?_eq_some_iff.1 hc).1
  | dm=>exact (Array.getElem?_eq_some_iff.1 (show w.heap[g]?=_ from hb1)).1
  | dead=>exact hb1.elim
  | arr T cs=>obtain ⟨cur,hc,_⟩:=hb1;exact (Array.getElem?_eq_some_iff.1 hc).1
 -- what the callee is told
 have hh0:HRel G c0 (look H0) (fun r=>r<n0) fr w:=by
  refine ⟨fun q b hq=>(hl.lend0 q b hq).1,fun q b hq=>?_,fun q q' b b' g m m' h1 h2 f1 f2=>hinj0 q q' b b' h1 h2 (hh.inj _ _ _ _ _ _ _ (hb q b h1) (hb q' b' h2) f1 f2),fun q b g m h1 f1 hg=>?_,fun q b g m h1 f1=>hh.nO _ _ _ _ (hb q b h1) f1,fun g hg=>hg.elim (hh.AO g) (fun ht=>(hT g ht).2.1),
   fun g hg=>hg.elim (hh.Alt g) (fun ht=>(hT g ht).1),hh.Olt,fr.mono _ _ _ _ _ _ hh.fr (fun g hg=>.inl hg) (fun _ _=>rfl),fun g row hg=>?_⟩
  ·obtain ⟨h1,h2,h3⟩:=hl.lend0 q b hq
   have hHq:=hb q b hq
   obtain ⟨g,m,hf,hB⟩:=(hh.pl _ _ hHq).resolve_right (fun hn=>by
    obtain ⟨_,hu⟩:=hn
    cases b<;>first | (simp [Blk.lend] at h2;done) | (simp only [Blk.ren] at hu;cases hu))
   refine .inl ⟨g,m,hf,?_⟩
   cases b with
   | var T cs=>
    obtain ⟨cur,p1,p2,p3⟩:=hB
    refine ⟨cur,p1,by rw [p2,rens_map,List.length_map],fun j x cv hx hcv=>?_⟩
    obtain ⟨q1,q2⟩:=p3 j (x.ren ρ) cv (by rw [rens_map,List.getElem?_map,hx];rfl) hcv
    exact ⟨ren_in (c:={ c with A:=A0 }) (c0:=c0) (ρ:=ρ) (H:=H) (U:=U) (fun _=>rfl) (fun _ h=>h) rfl hb (okRs_get _ j x h3 hx) (q1.mono (fun _ _=>rfl) hs0),q2⟩
   | mp es=>
    obtain ⟨en,clock,p1,p2,p3⟩:=hB
    exact ⟨en,clock,p1,p2,fun i k v e hk he=>let ⟨a,b⟩:=p3 i k v e hk he;⟨a.mono (fun g hg=>.inl hg) (fun _ _=>rfl),b.mono (fun g hg=>.inl hg) (fun _ _=>rfl)⟩⟩
   | _=>simp [Blk.lend] at h2
  ·rcases hg with hg | ⟨z,T,es,xs,m',h3,h4⟩
   ·exact hh.nA _ _ _ _ (hb q b h1) f1 hg
   ·have e:=hh.inj _ _ _ _ _ _ _ (hb q b h1) (hzsub _ _ h3) f1 h4
    exact hl.zs q (hl.keep q (by rw [h1];rfl)) (e▸hzs _ _ h3)
  ·obtain ⟨ha,hc⟩:=hh.gl g row hg
   exact ⟨.inl ha,fun j x hx=>let ⟨cv,h1,h2⟩:=hc j x hx;⟨cv,h1,h2.mono (fun g hg=>.inl hg) (fun _ _=>rfl)⟩⟩
 refine hC _ _ _ _ _ (h c0 w args (by omega) (fun i x v hx hv=>?_) hh0) ?_
 ·have hi:i<vs.length:=by have:=(List.getElem?_eq_some_iff.1 hx).1;omega
  have h1:=hargs i _ v (List.getElem?_eq_getElem hi) hv
  have h2:=hzg i _ (x.ren ρ) (List.getElem?_eq_getElem hi) (by rw [rens_map,List.getElem?_map,hx];rfl)
  have h3:=h1.frz2 hh hzsub h2 (A':=A0) (fun g hg=>.inl hg) (fun g hg=>.inr hg)
  exact ren_in (c:={ c with A:=A0 }) (c0:=c0) (ρ:=ρ) (H:=H) (U:=U) (fun _=>rfl) (fun _ h=>h) rfl hb (okRs_get _ i x hok hx) h3
 rintro e w' ⟨rv,c1,rfl,hv,hs,hh1,hx⟩
 -- how the names lie
 have hinjm:∀ q q' b b',(q,b)∈H1→(q',b')∈H1→ρ q=ρ q'→q=q':=fun q q' b b' h1 h2=>hl.inj q q' (look_some_mem h1) (look_some_mem h2)
 have hat:∀ q b,look H1 q=some b→hpOf (renL ρ H1++deadL zs) H (ρ q)=some (b.ren ρ)∧(cxAft c c1 ρ H1 zs).fm (ρ q)=c1.fm q:=fun q b hq=>by
  obtain ⟨h1,h2⟩:=look_ren hinjm q b hq
  refine ⟨by rw [hpOf_look,look_append,h1],by simp only [cxAft,h2]⟩
 have hnone:∀ n,(∀ q,(look H1 q).isSome=true→ρ q≠n)→look (renL ρ H1) n=none∧look (invL ρ H1) n=none:=fun n hn=>by
  constructor
  ·cases hc:look (renL ρ H1) n with
   | none=>rfl
   | some b'=>obtain ⟨q,b,h1,h2⟩:=look_ren' hc;exact absurd h2 (hn q (look_some_mem h1))
  ·cases hc:look (invL ρ H1) n with
   | none=>rfl
   | some q=>obtain ⟨h1,h2⟩:=look_inv' hc;exact absurd h1 (hn q h2)
 have hoth:∀ n,(∀ q,(look H1 q).isSome=true→ρ q≠n)→n ∉ zs→hpOf (renL ρ H1++deadL zs) H n=H n∧(cxAft c c1 ρ H1 zs).fm n=c.fm n:=fun n hn hz=>by
  obtain ⟨h1,h2⟩:=hnone n hn
  refine ⟨by rw [hpOf_look,look_append,h1];simp [look_dead,hz],by simp only [cxAft,h2,hz,if_false]⟩
 have hded:∀ n,n∈zs→hpOf (renL ρ H1++deadL zs) H n=some .dead∧(cxAft c c1 ρ H1 zs).fm n=none:=fun n hz=>by
  obtain ⟨h1,h2⟩:=hnone n (fun q hq e=>hl.zs q hq (e▸hz))
  refine ⟨by rw [hpOf_look,look_append,h1];simp [look_dead,hz],by simp only [cxAft,h2,hz,if_true]⟩
 -- a lent name is in use,a new one is not
 have hlentU:∀ q,q<n0→(look H1 q).isSome=true→∃ b0,look H0 q=some b0∧H (ρ q)=some (b0.ren ρ):=fun q hq hsome=>by
  obtain ⟨b,hb1⟩:=Option.isSome_iff_exists.1 hsome
  obtain ⟨b0,hb0⟩:=Option.isSome_iff_exists.1 ((hl.lend1 q b hb1).2.2 hq)
  exact ⟨b0,hb0,hb q b0 hb0⟩
 have hUn:∀ q,(look H1 q).isSome=true→U (ρ q)→q<n0:=fun q hq hu=>by
  rcases Nat.lt_or_ge q n0 with h | h
  ·exact h
  ·exact absurd hu (hnw _ (hl.new q h hq))
 have hUof:∀ q b,look H1 q=some b→usOf nw U (ρ q):=fun q b hq=>by
  rcases Nat.lt_or_ge q n0 with h | h
  ·obtain ⟨b0,h0,h0'⟩:=hlentU q h (by rw [hq];rfl)
   exact .inl (hh.lt _ _ h0')
  ·exact .inr (hl.new q h (by rw [hq];rfl))
 -- where lent blocks lie
 have hplace:∀ r b g m,H r=some b→c.fm r=some (g,m)→(∀ q,(look H1 q).isSome=true→ρ q≠r)→r ∉ zs→w'.heap[g]?=w.heap[g]?∧¬ c1.A g∧¬ c1.O g∧(∀ q b1 m1,look H1 q=some b1→c1.fm q≠some (g,m1)):=fun r b g m hr hf hn hz=>by
  have hlt:=hblt r b g m hr hf
  have hnO:=hh.nO r b g m hr hf
  have hnl:∀ q b0 m0,look H0 q=some b0→c.fm (ρ q)≠some (g,m0):=fun q b0 m0 h0 hf0=>hn q (hl.keep q (by rw [h0];rfl)) (hh.inj _ _ _ _ _ _ _ (hb q b0 h0) hr hf0 hf)
  refine ⟨hx.same g hlt (fun q b0 m0 h0=>hnl q b0 m0 h0) hnO,fun ha=>?_,fun ho=>?_,fun q b1 m1 h1 hf1=>?_⟩
  ·rcases hx.A' g ha with (h1 | ⟨z,T,es,xs,m',h3,h4⟩) | h1 | h1 | ⟨q,b0,m0,h1,h2⟩
   ·exact hh.nA r b g m hr hf h1
   ·exact hz (hh.inj _ _ _ _ _ _ _ hr (hzsub _ _ h3) hf h4▸hzs _ _ h3)
   ·omega
   ·exact hnO h1
   ·exact hnl q b0 m0 h1 h2
  ·rcases hx.O' g ho with h1 | h1 | ⟨q,b0,m0,h1,h2⟩
   ·omega
   ·exact hnO h1
   ·exact hnl q b0 m0 h1 h2
  ·rcases hx.pl q b1 g m1 h1 hf1 with h1 | h1 | ⟨q,b0,m0,h1,h2⟩
   ·omega
   ·exact hnO h1
   ·exact hnl q b0 m0 h1 h2
 have hA1:∀ g,c.A g→c1.A g:=fun g hg=>hx.A g (.inl hg)
 have hwA:∀ g,c.A g→w'.heap[g]?=w.heap[g]?:=fun g hg=>hx.same g (hh.Alt g hg) (fun q b m h1 hf=>hh.nA _ _ _ _ (hb q b h1) hf hg) (hh.AO g hg)
 have hcase:∀ r,(∃ q,(look H1 q).isSome=true∧ρ q=r)∨((∀ q,(look H1 q).isSome=true→ρ q≠r)):=fun r=>by
  rcases Classical.em (∃ q,(look H1 q).isSome=true∧ρ q=r) with h | h
  ·exact .inl h
  ·exact .inr fun q hq e=>h ⟨q,hq,e⟩
 have hstep:HStep c H U (cxAft c c1 ρ H1 zs) (hpOf (renL ρ H1++deadL zs) H) (usOf nw U):=by
  refine ⟨fun r h=>.inl h,hx.hy,hA1,fun r T cs hr=>?_,fun r T es xs hu hr=>?_,fun r es hr=>?_,fun r hr=>?_,fun r T cs hu hr=>?_⟩
  ·rcases hcase r with ⟨q,hq,rfl⟩ | hn
   ·obtain ⟨b0,h0,h0'⟩:=hlentU q (hUn q hq (hh.lt _ _ hr)) hq
    rw [hr] at h0'
    cases b0 with
    | var T0 cs0=>
     cases h0'
     obtain ⟨e1,cs',h1⟩:=hs.var q T cs0 h0
     obtain ⟨a1,a2⟩:=hat q _ h1
     exact ⟨a2.trans e1,_,a1⟩
    | _=>cases h0'
   ·have hz:r ∉ zs:=fun hz=>by obtain ⟨_,_,_,h1⟩:=hzz r hz;rw [hr] at h1;cases h1
    obtain ⟨a1,a2⟩:=hoth r hn hz
    exact ⟨a2,cs,a1.trans hr⟩
  ·rcases hcase r with ⟨q,hq,rfl⟩ | hn
   ·obtain ⟨b,hb1⟩:=Option.isSome_iff_exists.1 hq
    obtain ⟨a1,a2⟩:=hat q _ hb1
    rw [hr] at a1
    rcases (hl.lend1 q b hb1).1 with this | ⟨_,hge⟩
    ·cases b<;>first | (simp [Blk.lend] at this;done) | (simp only [Blk.ren] at a1;cases a1)
    ·exact absurd (hUn q hq hu) (Nat.not_lt.2 hge)
   ·by_cases hz:r∈zs
    ·rw [(hded r hz).1] at hr;cases hr
    ·obtain ⟨a1,a2⟩:=hoth r hn hz
     exact ⟨xs,a1▸hr,Nat.le_refl _,fun _=>a2⟩
  ·rcases hcase r with ⟨q,hq,rfl⟩ | hn
   ·obtain ⟨b0,h0,h0'⟩:=hlentU q (hUn q hq (hh.lt _ _ hr)) hq
    rw [hr] at h0'
    cases b0 with
    | mp es0=>
     cases h0'
     obtain ⟨e1,cs',h1⟩:=hs.mp q es h0
     obtain ⟨a1,a2⟩:=hat q _ h1
     exact ⟨a2.trans e1,_,a1⟩
    | _=>cases h0'
   ·have hz:r ∉ zs:=fun hz=>by obtain ⟨_,_,_,h1⟩:=hzz r hz;rw [hr] at h1;cases h1
    obtain ⟨a1,a2⟩:=hoth r hn hz
    exact ⟨a2,es,a1.trans hr⟩
  ·rcases hcase r with ⟨q,hq,rfl⟩ | hn
   ·obtain ⟨b0,h0,h0'⟩:=hlentU q (hUn q hq (hh.lt _ _ hr)) hq
    rw [hr] at h0'
    have:=(hl.lend0 q b0 h0).2.1
    cases b0<;>first | (simp [Blk.lend] at this;done) | (simp only [Blk.ren] at h0';cases h0')
   ·have hz:r ∉ zs:=fun hz=>by obtain ⟨_,_,_,h1⟩:=hzz r hz;rw [hr] at h1;cases h1
    obtain ⟨a1,a2⟩:=hoth r hn hz
    exact ⟨a2,a1.trans hr⟩
  ·rcases hcase r with ⟨q,hq,rfl⟩ | hn
   ·obtain ⟨b,hb1⟩:=Option.isSome_iff_exists.1 hq
    obtain ⟨a1,a2⟩:=hat q _ hb1
    rw [hr] at a1
    rcases (hl.lend1 q b hb1).1 with this | ⟨_,hge⟩
    ·cases b<;>first | (simp [Blk.lend] at this;done) | (simp only [Blk.ren] at a1;cases a1)
    ·exact absurd (hUn q hq hu) (Nat.not_lt.2 hge)
   ·by_cases hz:r∈zs
    ·rw [(hded r hz).1] at hr;cases hr
    ·obtain ⟨a1,a2⟩:=hoth r hn hz
     exact ⟨cs,a1▸hr,a2⟩
 refine ⟨rv,c1,rfl,?_,hstep,?_,?_⟩
 ·exact ren_out (c:=cxAft c c1 ρ H1 zs) hUof (fun q b hq=>(hat q b hq).2) (fun _ h=>h) rfl (fun q b hq=>(hat q b hq).1) hv hno
 ·refine ⟨fun r b hr=>?_,fun r b hr=>?_,fun r r' b b' g m m' hr hr' hf hf'=>?_,fun r b g m hr hf=>?_,fun r b g m hr hf=>?_,hh1.AO,hh1.Alt,hh1.Olt,hh1.fr,hh1.gl⟩
  ·rcases hcase r with ⟨q,hq,rfl⟩ | hn
   ·rcases Nat.lt_or_ge q n0 with h | h
    ·obtain ⟨b0,h0,h0'⟩:=hlentU q h hq
     exact .inl (hh.lt _ _ h0')
    ·exact .inr (hl.new q h hq)
   ·by_cases hz:r∈zs
    ·obtain ⟨T,es,xs,h1⟩:=hzz r hz;exact .inl (hh.lt _ _ h1)
    ·rw [(hoth r hn hz).1] at hr;exact .inl (hh.lt _ _ hr)
  ·rcases hcase r with ⟨q,hq,rfl⟩ | hn
   ·obtain ⟨b1,hb1⟩:=Option.isSome_iff_exists.1 hq
    obtain ⟨a1,a2⟩:=hat q _ hb1
    rw [hr] at a1;cases a1
    obtain ⟨l1,l2,l3⟩:=hl.lend1 q b1 hb1
    rcases hh1.pl q b1 hb1 with ⟨g,m,hf,hB⟩ | ⟨hf,hu⟩
    case inr=>
     refine .inr ⟨a2.trans hf,?_⟩
     cases hu with
     | row T es h=>exact .row T es h
     | dead=>simp [Blk.lend,Blk.fresh] at l1
    refine .inl ⟨g,m,a2.trans hf,?_⟩
    cases b1 with
    | row T es xs=>exact hB
    | var T cs=>
     obtain ⟨cur,p1,p2,p3⟩:=hB
     refine ⟨cur,p1,by rw [p2,rens_map,List.length_map],fun j x cv hx hcv=>?_⟩
     rw [rens_map,List.getElem?_map,Option.map_eq_some_iff] at hx
     obtain ⟨y,hy,rfl⟩:=hx
     obtain ⟨q1,q2⟩:=p3 j y cv hy hcv
     exact ⟨ren_out (c:=cxAft c c1 ρ H1 zs) hUof (fun q b hq=>(hat q b hq).2) (fun _ h=>h) rfl (fun q b hq=>(hat q b hq).1) q1 (ownIns_get _ j y l2 hy),q2⟩
    | mp es=>exact hB
    | arr T cs=>
     obtain ⟨cur,p1,p2,p3⟩:=hB
     refine ⟨cur,p1,by rw [p2,rens_map,List.length_map],fun j x cv hx hcv=>?_⟩
     rw [rens_map,List.getElem?_map,Option.map_eq_some_iff] at hx
     obtain ⟨y,hy,rfl⟩:=hx
     obtain ⟨q1,q2⟩:=p3 j y cv hy hcv
     exact ⟨ren_out (c:=cxAft c c1 ρ H1 zs) hUof (fun q b hq=>(hat q b hq).2) (fun _ h=>h) rfl (fun q b hq=>(hat q b hq).1) q1 (ownIns_get _ j y l2 hy),q2⟩
    | _=>simp [Blk.lend,Blk.fresh] at l1
   ·by_cases hz:r∈zs
    ·rw [(hded r hz).1] at hr;cases hr
     exact .inr ⟨(hded r hz).2,.dead⟩
    ·obtain ⟨a1,a2⟩:=hoth r hn hz
     rw [a1] at hr
     rcases hh.pl r b hr with ⟨g,m,hf,hB⟩ | ⟨hf,hu⟩
     ·exact .inl ⟨g,m,a2.trans hf,hB.mono (hplace r b g m hr hf hn hz).1 hwA hstep⟩
     ·exact .inr ⟨a2.trans hf,hu⟩
  ·rcases hcase r with ⟨q,hq,rfl⟩ | hn
   ·obtain ⟨b1,hb1⟩:=Option.isSome_iff_exists.1 hq
    rw [(hat q _ hb1).2] at hf
    rcases hcase r' with ⟨q',hq',rfl⟩ | hn'
    ·obtain ⟨b1',hb1'⟩:=Option.isSome_iff_exists.1 hq'
     rw [(hat q' _ hb1').2] at hf'
     rw [hh1.inj q q' _ _ g m m' hb1 hb1' hf hf']
    ·by_cases hz:r'∈zs
     ·rw [(hded r' hz).2] at hf';cases hf'
     ·obtain ⟨a1,a2⟩:=hoth r' hn' hz
      rw [a1] at hr';rw [a2] at hf'
      exact absurd hf ((hplace r' b' g m' hr' hf' hn' hz).2.2.2 q b1 m hb1)
   ·by_cases hz:r∈zs
    ·rw [(hded r hz).2] at hf;cases hf
    ·obtain ⟨a1,a2⟩:=hoth r hn hz
     rw [a1] at hr;rw [a2] at hf
     rcases hcase r' with ⟨q',hq',rfl⟩ | hn'
     ·obtain ⟨b1',hb1'⟩:=Option.isSome_iff_exists.1 hq'
      rw [(hat q' _ hb1').2] at hf'
      exact absurd hf' ((hplace r b g m hr hf hn hz).2.2.2 q' b1' m' hb1')
     ·by_cases hz':r'∈zs
      ·rw [(hded r' hz').2] at hf';cases hf'
      ·obtain ⟨a1',a2'⟩:=hoth r' hn' hz'
       rw [a1'] at hr';rw [a2'] at hf'
       exact hh.inj r r' b b' g m m' hr hr' hf hf'
  ·rcases hcase r with ⟨q,hq,rfl⟩ | hn
   ·obtain ⟨b1,hb1⟩:=Option.isSome_iff_exists.1 hq
    rw [(hat q _ hb1).2] at hf
    exact hh1.nA q b1 g m hb1 hf
   ·by_cases hz:r∈zs
    ·rw [(hded r hz).2] at hf;cases hf
    ·obtain ⟨a1,a2⟩:=hoth r hn hz
     rw [a1] at hr;rw [a2] at hf
     exact (hplace r b g m hr hf hn hz).2.1
  ·rcases hcase r with ⟨q,hq,rfl⟩ | hn
   ·obtain ⟨b1,hb1⟩:=Option.isSome_iff_exists.1 hq
    rw [(hat q _ hb1).2] at hf
    exact hh1.nO q b1 g m hb1 hf
   ·by_cases hz:r∈zs
    ·rw [(hded r hz).2] at hf;cases hf
    ·obtain ⟨a1,a2⟩:=hoth r hn hz
     rw [a1] at hr;rw [a2] at hf
     exact (hplace r b g m hr hf hn hz).2.2.1
 ·refine ⟨hx.os,hx.tape,hx.output,hx.size,hx.hy,fun g hg hn ho=>hx.same g hg (fun q b m h1 hf=>hn _ _ m (hb q b h1) hf) ho,fun r b g m hr hf=>?_,hA1,fun g hg=>?_,fun g hg=>?_⟩
  ·rcases hcase r with ⟨q,hq,rfl⟩ | hn
   ·obtain ⟨b1,hb1⟩:=Option.isSome_iff_exists.1 hq
    rw [(hat q _ hb1).2] at hf
    rcases hx.pl q b1 g m hb1 hf with h1 | h1 | ⟨q0,b0,m0,h1,h2⟩
    ·exact .inl h1
    ·exact .inr (.inl h1)
    ·exact .inr (.inr ⟨_,_,m0,hb q0 b0 h1,h2⟩)
   ·by_cases hz:r∈zs
    ·rw [(hded r hz).2] at hf;cases hf
    ·obtain ⟨a1,a2⟩:=hoth r hn hz
     rw [a1] at hr;rw [a2] at hf
     exact .inr (.inr ⟨r,b,m,hr,hf⟩)
  ·rcases hx.A' g hg with (h1 | h1) | h1 | h1 | ⟨q,b0,m0,h1,h2⟩
   ·exact .inl h1
   ·obtain ⟨_,_,q,b,m,h3,h4⟩:=hT g h1
    exact .inr (.inr (.inr ⟨q,b,m,h3,h4⟩))
   ·exact .inr (.inl h1)
   ·exact .inr (.inr (.inl h1))
   ·exact .inr (.inr (.inr ⟨_,_,m0,hb q b0 h1,h2⟩))
  ·rcases hx.O' g hg with h1 | h1 | ⟨q,b0,m0,h1,h2⟩
   ·exact .inl h1
   ·exact .inr (.inl h1)
   ·exact .inr (.inr ⟨_,_,m0,hb q b0 h1,h2⟩)
end
end Go.Abs
namespace Go.Abs
section
variable {P:Program} {G:Gl} {nt:Nat}
def allL {α:Type} (p:α→Bool):List α→Bool
 | []=>true
 | x::l=>p x&&allL p l
theorem allL_ok {α:Type} {p:α→Bool}:∀ {l:List α},allL p l=true→∀ x∈l,p x=true
 | [],_,x,h=>by cases h
 | y::l,h,x,hx=>by
  simp only [allL,Bool.and_eq_true] at h
  cases hx with
  | head=>exact h.1
  | tail _ hx=>exact allL_ok h.2 x hx
def hasN (n:Nat):List Nat→Bool
 | []=>false
 | x::l=>Nat.beq x n||hasN n l
theorem hasN_ok {n:Nat}:∀ {l:List Nat},hasN n l=true→n∈l
 | x::l,h=>by
  simp only [hasN,Bool.or_eq_true] at h
  rcases h with h | h
  ·rw [Nat.eq_of_beq_eq_true h];simp
  ·simp [hasN_ok h]
theorem hasN_no {n:Nat}:∀ {l:List Nat},hasN n l=false→n ∉ l
 | [],_,h=>by cases h
 | x::l,h,hm=>by
  simp only [hasN,Bool.or_eq_false_iff] at h
  cases hm with
  | head=>rw [Nat.beq_refl] at h;cases h.1
  | tail _ hm=>exact hasN_no h.2 hm
def isRow:Blk→Bool
 | .row _ _ _=>true
 | _=>false
def lendB (ρ:Nat→Nat) (H0:List (Nat×Blk)) (n0:Nat) (H1:List (Nat×Blk)) (zs nw:List Nat):Bool:=
 allL (fun p=>Nat.blt p.1 n0&&p.2.lend&&p.2.okR n0 (fun q=>(look H0 q).isSome)&&(look H1 p.1).isSome) H0 &&
 allL (fun p=>(p.2.lend||(p.2.fresh&&Nat.ble n0 p.1))&&p.2.ownIn (fun q=>(look H1 q).isSome)&&(bif Nat.blt p.1 n0 then (look H0 p.1).isSome else hasN (ρ p.1) nw)&&!(hasN (ρ p.1) zs)&&allL (fun p'=>Nat.beq p.1 p'.1||!(Nat.beq (ρ p.1) (ρ p'.1))) H1) H1
theorem look_mem {α:Type}:∀ {l:List (Nat×α)} {q:Nat} {b:α},look l q=some b→(q,b)∈l
 | (k,v)::l,q,b,h=>by
  rw [look_cons] at h
  by_cases e:k=q
  ·subst e;rw [if_pos rfl] at h;cases h;simp
  ·rw [if_neg e] at h;simp [look_mem h]
theorem Lend.of {ρ:Nat→Nat} {H0:List (Nat×Blk)} {n0:Nat} {H1:List (Nat×Blk)} {n1:Nat} {zs nw:List Nat} (h:lendB ρ H0 n0 H1 zs nw=true):Lend ρ H0 n0 H1 n1 zs nw:=by
 simp only [lendB,Bool.and_eq_true] at h
 obtain ⟨h0,h1⟩:=h
 have g0:∀ q b,look H0 q=some b→_:=fun q b hq=>allL_ok h0 (q,b) (look_mem hq)
 have g1:∀ q b,look H1 q=some b→_:=fun q b hq=>allL_ok h1 (q,b) (look_mem hq)
 simp only [Bool.and_eq_true] at g0 g1
 refine ⟨fun q b hq=>?_,fun q b hq=>?_,fun q hq=>?_,fun q q' hq hq' e=>?_,fun q hn hq=>?_,fun q hq=>?_⟩
 ·obtain ⟨⟨⟨a1,a2⟩,a3⟩,a4⟩:=g0 q b hq
  exact ⟨Nat.le_of_ble_eq_true a1,a2,a3⟩
 ·obtain ⟨⟨⟨⟨a1,a2⟩,a3⟩,a4⟩,a5⟩:=g1 q b hq
  refine ⟨?_,a2,fun hlt=>?_⟩
  ·rcases Bool.or_eq_true_iff.1 a1 with h | h
   ·exact .inl h
   ·rw [Bool.and_eq_true] at h
    exact .inr ⟨h.1,Nat.le_of_ble_eq_true h.2⟩
  ·rw [blt_t hlt] at a3;exact a3
 ·obtain ⟨b,hb⟩:=Option.isSome_iff_exists.1 hq
  exact (g0 q b hb).2
 ·obtain ⟨b,hb⟩:=Option.isSome_iff_exists.1 hq
  obtain ⟨b',hb'⟩:=Option.isSome_iff_exists.1 hq'
  have:=allL_ok (g1 q b hb).2 (q',b') (look_mem hb')
  simp only [Bool.or_eq_true,Bool.not_eq_true'] at this
  rcases this with h | h
  ·exact Nat.eq_of_beq_eq_true h
  ·rw [e,Nat.beq_refl] at h;cases h
 ·obtain ⟨b,hb⟩:=Option.isSome_iff_exists.1 hq
  obtain ⟨⟨⟨⟨a1,a2⟩,a3⟩,a4⟩,a5⟩:=g1 q b hb
  rw [blt_f hn] at a3;exact hasN_ok a3
 ·obtain ⟨b,hb⟩:=Option.isSome_iff_exists.1 hq
  obtain ⟨⟨⟨⟨a1,a2⟩,a3⟩,a4⟩,a5⟩:=g1 q b hb
  simp only [Bool.not_eq_true'] at a4
  exact hasN_no a4
def rnm (ns:List Nat) (nx:Nat) (q:Nat):Nat:=match ns[q]? with | some r=>r | none=>nx+(q - ns.length)
def keysL:List (Nat×Blk)→List Nat
 | []=>[]
 | (q,_)::l=>q::keysL l
theorem keysL_mem:∀ {l:List (Nat×Blk)} {z:Nat},z∈keysL l→∃ b,(z,b)∈l
 | (q,b)::l,z,h=>by
  simp only [keysL,List.mem_cons] at h
  rcases h with rfl | h
  ·exact ⟨b,by simp⟩
  ·obtain ⟨b',hb'⟩:=keysL_mem h;exact ⟨b',by simp [hb']⟩
theorem mem_keysL:∀ {l:List (Nat×Blk)} {z:Nat} {b:Blk},(z,b)∈l→z∈keysL l
 | (q,b')::l,z,b,h=>by
  simp only [keysL,List.mem_cons]
  cases h with
  | head=>exact .inl rfl
  | tail _ h=>exact .inr (mem_keysL h)
theorem Rds.app {H:Hp}:∀ {l m:List (Nat×Blk)},Rds H (l++m)→Rds H l∧Rds H m
 | [],m,h=>⟨trivial,h⟩
 | (q,b)::l,m,h=>⟨⟨h.1,(Rds.app h.2).1⟩,(Rds.app h.2).2⟩
theorem mem_renL {ρ:Nat→Nat}:∀ {l:List (Nat×Blk)} {q:Nat} {b:Blk},(q,b)∈l→(ρ q,b.ren ρ)∈renL ρ l
 | (k,v)::l,q,b,h=>by
  simp only [renL,List.mem_cons]
  cases h with
  | head=>exact .inl rfl
  | tail _ h=>exact .inr (mem_renL h)
theorem call_lst {f:Nat} {vs0:List V} {H0:List (Nat×Blk)} {n0:Nat} {fr fr':Fr} {r0:V} {H1:List (Nat×Blk)} {n1:Nat} (h:SCall P G f vs0 H0 n0 fr r0 H1 n1 fr') {ρ:Nat→Nat} {zr:List (Nat×Blk)} {nw:List Nat} (hl:Lend ρ H0 n0 H1 n1 (keysL zr) nw)
  (hzr:allL (fun p=>isRow p.2) zr=true) {vs:List V} (hz:FrzL (look zr) vs (V.ren.rens ρ vs0)) (hok:V.okR.okRs n0 (fun q=>(look H0 q).isSome) vs0=true) (hno:r0.ownIn (fun q=>(look H1 q).isSome)=true)
  {U:Nat→Prop} {E:En} {H:Hp} {o:Oper} {F:Fence} {c:Cx} {a:Act} {w:World} {next:Act→World→Prop} {Q:Exit→Act→World→Prop} (hF:FOk F) (hR:Rel G nt c U E H fr a w) (hH:Rds H (renL ρ H0++zr)) (hnw:∀ r∈nw,¬ U r)
  (hd:∀ c,o.op≠.defer c) {args:Array Value} (hrun:(execOp a.eval o).run P w=.ok (.enter f args) w) (hsz:args.size=vs.length) (hargs:∀ (i:Nat) x v,vs[i]?=some x→args[i]?=some v→VRel c H U w x v)
  (k:∀ c' cv w',HStep c H U c' (hpOf (renL ρ H1++deadL (keysL zr)) H) (usOf nw U)→Rel G nt c' (usOf nw U) E (hpOf (renL ρ H1++deadL (keysL zr)) H) fr' a w'→VRel c' (hpOf (renL ρ H1++deadL (keysL zr)) H) (usOf nw U) w' (r0.ren ρ) cv →
   Ext c H w c' (hpOf (renL ρ H1++deadL (keysL zr)) H) w'→next (a.put o.dst cv) w'):o.wpIn F 0 P a w next Q:=by
 obtain ⟨hH1,hH2⟩:=hH.app
 have hsub:∀ q b,look zr q=some b→H q=some b:=fun q b hq=>hH2.mem (look_mem hq)
 refine wp_enter hF hd hrun (call_core (C:=fun _ args w R=>CallsIn Fence.wide 0 P f args w R) (fun _ _ _ _ _ h k=>CallsIn.mono h k) h hl hR.h (fun q b hq=>hH1.mem (mem_renL (look_mem hq))) hsub (fun q b hq=>mem_keysL (look_mem hq)) (fun z hzm=>?_) hnw hsz hargs hz hok hno) ?_
 ·obtain ⟨b,hb⟩:=keysL_mem hzm
  have:=allL_ok hzr (z,b) hb
  cases b with
  | row T es xs=>exact ⟨T,es,xs,hH2.mem hb⟩
  | _=>simp [isRow] at this
 ·rintro e w' ⟨rv,c1,rfl,hv,hs,hh,hx⟩
  exact ⟨rv,rfl,k _ rv w' hs (hR.step hs hh hx) hv hx⟩
theorem s_callS {f:Nat} {args:List Opd} {vs vs0:List V} {H0:List (Nat×Blk)} {n0:Nat} {fr fr':Fr} {r0:V} {H1:List (Nat×Blk)} {n1:Nat} (h:SCall P G f vs0 H0 n0 fr r0 H1 n1 fr') (ρ:Nat→Nat) (zr:List (Nat×Blk)) {nw:List Nat} (hl:Lend ρ H0 n0 H1 n1 (keysL zr) nw)
  (hzr:allL (fun p=>isRow p.2) zr=true) (hz:FrzL (look zr) vs (V.ren.rens ρ vs0)) (hok:V.okR.okRs n0 (fun q=>(look H0 q).isSome) vs0=true) (hno:r0.ownIn (fun q=>(look H1 q).isSome)=true) (hal:args.length=vs.length) :
  LStp P G nt (.call f args) (args.zip vs) (renL ρ H0++zr) (r0.ren ρ) ⟨renL ρ H1++deadL (keysL zr),nw⟩ fr fr':=by
 intro U E H o F c a w next Q ht hF hR hE hH hnw k
 generalize hop:o.op=op at ht
 cases ht with
 | @call _ xs ts _ hx hfn=>
  obtain ⟨hlen,hrel⟩:=evs_ok hR hx (Evs.unzip hal hE)
  exact call_lst h hl hzr hz hok hno hF hR hH hnw (by simp [hop]) (call_run hop hfn w) (by simpa using hlen) (fun i x v hx hv=>hrel i x v hx (by simpa using hv)) k
theorem ofValue_run {c:Cx} {H:Hp} {U:Nat→Prop} {w:World} {v:V} {f:Nat} {first caps:List V} (hc:Callee v f first caps) {cv:Value} (hv:VRel c H U w v cv) (args:Array Value) :
  ∃ fs cs:List Value,(Deferred.ofValue cv args).run P w=.ok { target:=.fn (.func f) cs.toArray,args:=fs.toArray++args } w∧fs.length=first.length∧cs.length=caps.length∧(∀ (i:Nat) x v,first[i]?=some x→fs[i]?=some v→VRel c H U w x v) ∧
   (∀ (i:Nat) x v,caps[i]?=some x→cs[i]?=some v→VRel c H U w x v):=by
 cases hc with
 | clo=>
  cases hv with
  | clo _ _ _ fs cs hf hc h1 h2=>exact ⟨fs,cs,rfl,hf,hc,h1,h2⟩
 | fn=>
  cases hv with
  | d _ _ hd=>cases hd;exact ⟨[],[],by simp [Deferred.ofValue],rfl,rfl,fun i x v hx=>by simp at hx,fun i x v hx=>by simp at hx⟩
def hasBody (P : Program) (f : Nat) : Bool := match P.funcs[f]? with | some fn => !(fn.name == "runtime.NumGoroutine") && !fn.body.isNone | none => false
theorem hasBody_ok {f : Nat} (h : hasBody P f = true) : ∃ fn, P.funcs[f]? = some fn ∧ (fn.name == "runtime.NumGoroutine") = false ∧ fn.body.isNone = false := by
 unfold hasBody at h
 split at h
 ·rename_i fn hfn
  simp only [Bool.and_eq_true,Bool.not_eq_true'] at h
  exact ⟨fn,hfn,h.1,h.2⟩
 ·cases h
theorem s_callvS {f:Nat} {x:Opd} {u:V} {first caps:List V} (hc:Callee u f first caps) (hbd:hasBody P f=true) {args:List Opd} {vs vs0:List V} {H0:List (Nat×Blk)} {n0:Nat} {fr fr':Fr} {r0:V} {H1:List (Nat×Blk)} {n1:Nat} (h:SCall P G f vs0 H0 n0 fr r0 H1 n1 fr') (ρ:Nat→Nat) (zr:List (Nat×Blk)) {nw:List Nat} (hl:Lend ρ H0 n0 H1 n1 (keysL zr) nw)
  (hzr:allL (fun p=>isRow p.2) zr=true) (hz:FrzL (look zr) (first++vs++caps) (V.ren.rens ρ vs0)) (hok:V.okR.okRs n0 (fun q=>(look H0 q).isSome) vs0=true) (hno:r0.ownIn (fun q=>(look H1 q).isSome)=true) (hal:args.length=vs.length) :
  LStp P G nt (.callv x args) ((x,u)::args.zip vs) (renL ρ H0++zr) (r0.ren ρ) ⟨renL ρ H1++deadL (keysL zr),nw⟩ fr fr':=by
 intro U E H o F c a w next Q ht hF hR hE hH hnw k
 generalize hop:o.op=op at ht
 cases ht with
 | @callv t xs ts _ hx=>
  obtain ⟨hlen,hrel⟩:=evs_ok hR hx (Evs.unzip hal hE.2)
  have hv:=ev_ok hR (x:=.tmp t) rfl hE.1
  obtain ⟨fs,cs,hof,l1,l2,r1,r2⟩:=ofValue_run (P:=P) hc hv (xs.map a.eval)
  obtain ⟨fn,b1,b2,b3⟩:=hasBody_ok hbd
  have hrun:(execOp a.eval o).run P w=.ok (.enter f (fs.toArray++xs.map a.eval++cs.toArray)) w:=by
   simp only [execOp,hop,resolve,Sem.run_bind,hof,Result.andThen_ok,invoke]
   exact callFunc_run b1 b2 b3 w
  refine call_lst h hl hzr hz hok hno hF hR hH hnw (by simp [hop]) hrun (by simp [l1,l2] at *;omega) (fun i x v hx hv=>?_) k
  have hv':(fs++xs.toList.map a.eval++cs)[i]?=some v:=by
   have:=congrArg Array.toList (show fs.toArray++xs.map a.eval++cs.toArray=(fs++xs.toList.map a.eval++cs).toArray by apply Array.ext';simp)
   rw [← Array.getElem?_toList,this] at hv;exact hv
  by_cases h1:i<first.length
  ·rw [List.append_assoc,List.getElem?_append_left h1] at hx
   rw [List.append_assoc,List.getElem?_append_left (by omega)] at hv'
   exact r1 i x v hx hv'
  ·by_cases h2:i<first.length+vs.length
   ·rw [List.getElem?_append_left (by simp;omega),List.getElem?_append_right (by omega)] at hx
    rw [List.getElem?_append_left (by simp at hlen ⊢;omega),List.getElem?_append_right (by omega)] at hv'
    rw [l1] at hv'
    exact hrel _ x v hx hv'
   ·rw [List.getElem?_append_right (by simp;omega)] at hx
    rw [List.getElem?_append_right (by simp at hlen ⊢;omega)] at hv'
    have e:i - (fs++xs.toList.map a.eval).length=i - (first++vs).length:=by simp at hlen ⊢;omega
    rw [e] at hv'
    exact r2 _ x v hx hv'
theorem ren_none (ρ:Nat→Nat):∀ {v:V},v.okR 0 (fun _=>false)=true→v.ren ρ=v:=by
 intro v
 induction v using V.rec (motive_2:=fun cs=>V.okR.okRs 0 (fun _=>false) cs=true→V.ren.rens ρ cs=cs) with
 | ptr r off=>intro h;simp [V.okR] at h
 | vsl r off n k=>intro h;simp [V.okR] at h
 | asl r n=>intro h;simp [V.okR,Nat.blt] at h
 | aptr r off=>intro h;simp [V.okR,Nat.blt] at h
 | eptr r n i off=>intro h;simp [V.okR,Nat.blt] at h
 | own r n=>intro h;simp [V.okR,Nat.blt] at h
 | map r=>intro h;simp [V.okR] at h
 | clo f first caps ih1 ih2=>intro h;simp only [V.okR,Bool.and_eq_true] at h;simp only [V.ren,ih1 h.1,ih2 h.2]
 | agg cs ih=>intro h;simp only [V.okR] at h;simp only [V.ren,ih h]
 | tup cs ih=>intro h;simp only [V.okR] at h;simp only [V.ren,ih h]
 | nil=>rfl
 | cons v vs ih1 ih2=>
  rename_i h
  simp only [V.okR.okRs,Bool.and_eq_true] at h
  simp only [V.ren.rens,ih1 h.1,ih2 h.2]
 | _=>intro _;rfl
theorem rens_none (ρ:Nat→Nat):∀ {vs:List V},V.okR.okRs 0 (fun _=>false) vs=true→V.ren.rens ρ vs=vs
 | [],_=>rfl
 | v::vs,h=>by
  simp only [V.okR.okRs,Bool.and_eq_true] at h
  simp only [V.ren.rens,ren_none ρ h.1,rens_none ρ h.2]
theorem ownIn_none {dom:Nat→Bool}:∀ {v:V},v.okR 0 (fun _=>false)=true→v.ownIn dom=true:=by
 intro v
 induction v using V.rec (motive_2:=fun cs=>V.okR.okRs 0 (fun _=>false) cs=true→V.ownIn.ownIns dom cs=true) with
 | eptr r n i off=>intro h;simp [V.okR,Nat.blt] at h
 | own r n=>intro h;simp [V.okR,Nat.blt] at h
 | asl r n=>intro h;simp [V.okR,Nat.blt] at h
 | aptr r off=>intro h;simp [V.okR,Nat.blt] at h
 | clo f first caps ih1 ih2=>intro h;simp only [V.okR,Bool.and_eq_true] at h;simp only [V.ownIn,ih1 h.1,ih2 h.2];rfl
 | agg cs ih=>intro h;simp only [V.okR] at h;simp only [V.ownIn,ih h]
 | tup cs ih=>intro h;simp only [V.okR] at h;simp only [V.ownIn,ih h]
 | nil=>rfl
 | cons v vs ih1 ih2=>
  rename_i h
  simp only [V.okR.okRs,Bool.and_eq_true] at h
  simp only [V.ownIn.ownIns,ih1 h.1,ih2 h.2];rfl
 | _=>intro _;rfl
theorem lend_none (ρ:Nat→Nat) (zs:List Nat):Lend ρ [] 0 [] 0 zs []:=Lend.of rfl
theorem s_callZ {f:Nat} {args:List Opd} {vs vs':List V} {zr:List (Nat×Blk)} {r:V} {fr:Fr} (h:PCall P G f vs' r) (hz:FrzL (look zr) vs vs') (hzr:allL (fun p=>isRow p.2) zr=true) (hl:args.length=vs.length) (hok:V.okR.okRs 0 (fun _=>false) vs'=true) (hr:r.okR 0 (fun _=>false)=true) :
  LStp P G nt (.call f args) (args.zip vs) zr r ⟨deadL (keysL zr),[]⟩ fr fr:=by
 have h1:=s_callS (nt:=nt) (SCall.frame h fr) (fun q=>q) zr (nw:=[]) (lend_none _ _) hzr (by rw [rens_none _ hok];exact hz) (by have e:(fun q=>(look ([]:List (Nat×Blk)) q).isSome)=fun _=>false:=rfl;rw [e];exact hok) (ownIn_none hr) hl
 rw [ren_none _ hr] at h1
 exact h1
theorem s_callvZ {f:Nat} {x:Opd} {u:V} {first caps:List V} (hc:Callee u f first caps) (hbd:hasBody P f=true) {args:List Opd} {vs vs':List V} {zr:List (Nat×Blk)} {r:V} {fr:Fr} (h:PCall P G f vs' r) (hz:FrzL (look zr) (first++vs++caps) vs') (hzr:allL (fun p=>isRow p.2) zr=true) (hl:args.length=vs.length)
  (hok:V.okR.okRs 0 (fun _=>false) vs'=true) (hr:r.okR 0 (fun _=>false)=true):LStp P G nt (.callv x args) ((x,u)::args.zip vs) zr r ⟨deadL (keysL zr),[]⟩ fr fr:=by
 have h1:=s_callvS (nt:=nt) (x:=x) hc hbd (SCall.frame h fr) (fun q=>q) zr (nw:=[]) (lend_none _ _) hzr (by rw [rens_none _ hok];exact hz) (by have e:(fun q=>(look ([]:List (Nat×Blk)) q).isSome)=fun _=>false:=rfl;rw [e];exact hok) (ownIn_none hr) hl
 rw [ren_none _ hr] at h1
 exact h1
end
end Go.Abs
namespace Go.Abs
def YC (P:Program):Nat→Array Value→World→(Ending→World→Prop)→Prop:=fun y args w R=>
 ∃ l f tmps assign body w1,(Instr.yield y args).run P w=.ok (.round l f tmps assign body) w1∧RoundIn Fence.wide 0 P l f tmps assign body w1 R
def YCall (P:Program) (G:Gl) (fr:Fr) (vs:List V) (r:V) (fr':Fr):Prop:=GCall G (YC P) vs [] 0 fr r [] 0 fr'
section
variable {P:Program} {G:Gl} {nt:Nat} {F:Fence}
theorem RoundIn.wide {l:Nat} {f:FuncId} {tmps:Array Value} {assign body:Code} {w:World} {R:Ending→World→Prop} (hF:FOk F) (h:RoundIn Fence.wide 0 P l f tmps assign body w R):RoundIn F 0 P l f tmps assign body w R:=by
 rcases hF with rfl | ⟨l,rfl⟩
 ·exact h
 ·exact h
theorem s_yield {x:Opd} {args:List Opd} {vs vs':List V} {zr:List (Nat×Blk)} {r:V} {fr fr':Fr} (h:YCall P G fr vs' r fr') (hz:FrzL (look zr) vs vs') (hzr:allL (fun p=>isRow p.2) zr=true) (hl:args.length=vs.length)
  (hok:V.okR.okRs 0 (fun _=>false) vs'=true) (hr:r.okR 0 (fun _=>false)=true):LStp P G nt (.callv x args) ((x,.yld)::args.zip vs) zr r ⟨deadL (keysL zr),[]⟩ fr fr':=by
 intro U E H o F c a w next Q ht hF hR hE hH hnw k
 generalize hop:o.op=op at ht
 cases ht with
 | @callv t xs ts _ hx=>
  obtain ⟨hlen,hrel⟩:=evs_ok hR hx (Evs.unzip hl hE.2)
  have hv:=ev_ok hR (x:=.tmp t) rfl hE.1
  generalize hav:a.eval (.tmp t)=av at hv
  cases hv with
  | yld=>
   have hsub:∀ q b,look zr q=some b→H q=some b:=fun q b hq=>hH.mem (look_mem hq)
   have:=call_core (C:=YC P) (fun y args w R R' ⟨l,f,tm,as,bd,w1,h1,h2⟩ k=>⟨l,f,tm,as,bd,w1,h1,RoundIn.mono h2 k⟩) h (ρ:=fun q=>q) (lend_none _ (keysL zr)) hR.h (fun q b hq=>(look_nil hq).elim) hsub (fun q b hq=>mem_keysL (look_mem hq)) (fun z hzm=>by
     obtain ⟨b,hb⟩:=keysL_mem hzm
     have:=allL_ok hzr (z,b) hb
     cases b with
     | row T es xs=>exact ⟨T,es,xs,hH.mem hb⟩
     | _=>simp [isRow] at this) hnw (vs:=vs) (args:=xs.map a.eval) (by simpa using hlen) (fun i x v hx hv=>hrel i x v hx (by simpa using hv)) (by rw [rens_none _ hok];exact hz) hok (ownIn_none hr)
   obtain ⟨l,f,tm,as,bd,w1,hy,hrd⟩:=this
   have hrun:(execOp a.eval o).run P w=.ok (.round l f tm as bd) w1:=by
    simp only [execOp,hop,resolve,Sem.run_bind,hav,Deferred.ofValue,Sem.run_pure,Result.andThen_ok,invoke]
    rw [show (#[]:Array Value)++xs.map a.eval=xs.map a.eval by simp]
    exact hy
   refine ⟨fun f _=>hF.fn f,?_⟩
   rw [Oper.semAt_eq _ _ _ (by simp [hop]),hrun,Oper.uponIn_round]
   refine ⟨fun hd=>(by rw [hF.depth] at hd;cases hd),?_⟩
   refine RoundIn.mono (RoundIn.wide hF hrd) ?_
   rintro e w' ⟨rv,c1,rfl,hv,hs,hh,hx⟩
   rw [ren_none _ hr] at hv
   exact k _ rv w' hs (hR.step hs hh hx) hv hx
theorem HRel.same {c:Cx} {H:Hp} {U:Nat→Prop} {fr:Fr} {w w':World} (h:HRel G c H U fr w) (ho:∀ r b g m,H r=some b→c.fm r=some (g,m)→w'.heap[g]?=w.heap[g]?) (hA:∀ g,c.A g→w'.heap[g]?=w.heap[g]?) (hO:∀ g,c.O g→w'.heap[g]?=w.heap[g]?):HRel G c H U fr w':=by
 have lt:∀ g:Nat,g<w.heap.size→w'.heap[g]?=w.heap[g]?→g<w'.heap.size:=fun g hg e=>by
  rw [Array.getElem?_eq_getElem hg] at e
  exact (Array.getElem?_eq_some_iff.1 e).1
 exact ⟨h.lt,fun r b hr=>(h.pl r b hr).imp (fun ⟨g,m,hf,hB⟩=>⟨g,m,hf,hB.mono (ho r b g m hr hf) hA (HStep.refl _ _ _)⟩) id,h.inj,h.nA,h.nO,h.AO,fun g hg=>lt g (h.Alt g hg) (hA g hg),fun g hg=>lt g (h.Olt g hg) (hO g hg),
  fr.mono _ _ _ _ _ _ h.fr (fun _ h=>h) (fun g hg=>hg.elim (hA g) (hO g)),fun g row hg=>let ⟨ha,hc⟩:=h.gl g row hg;⟨ha,fun j x hx=>let ⟨cv,h1,h2⟩:=hc j x hx;⟨cv,by rw [cell_of_heap (hA g ha)];exact h1,h2.mono (fun _ h=>h) hA⟩⟩⟩
theorem HStep.growA (c:Cx) (H:Hp) (U:Nat→Prop) {A':Nat→Prop} (hA:∀ g,c.A g→A' g):HStep c H U { c with A:=A' } H U:=
 ⟨fun _ h=>h,rfl,hA,fun r T cs hr=>⟨rfl,cs,hr⟩,fun r T es xs _ hr=>⟨xs,hr,Nat.le_refl _,fun _=>rfl⟩,fun r es hr=>⟨rfl,es,hr⟩,fun r hr=>⟨rfl,hr⟩,fun r T cs _ hr=>⟨cs,hr,rfl⟩⟩
theorem HRel.growA {c:Cx} {H:Hp} {U:Nat→Prop} {fr:Fr} {w:World} (h:HRel G c H U fr w) {A':Nat→Prop} (hA:∀ g,c.A g→A' g) (hn:∀ r b g m,H r=some b→c.fm r=some (g,m)→¬ A' g) (hO:∀ g,A' g→¬ c.O g) (hl:∀ g,A' g→g<w.heap.size):HRel G { c with A:=A' } H U fr w:=
 ⟨h.lt,fun r b hr=>(h.pl r b hr).imp (fun ⟨g,m,hf,hB⟩=>⟨g,m,hf,hB.mono rfl (fun _ _=>rfl) (HStep.growA c H U hA)⟩) id,h.inj,hn,h.nO,hO,hl,h.Olt,fr.mono _ _ _ _ _ _ h.fr hA (fun _ _=>rfl),
  fun g row hg=>let ⟨ha,hc⟩:=h.gl g row hg;⟨hA g ha,fun j x hx=>let ⟨cv,h1,h2⟩:=hc j x hx;⟨cv,h1,h2.mono hA (fun _ _=>rfl)⟩⟩⟩
structure Wt where
 nt:Nat
 env:List (Nat×V)
 tm:Array Value
 ps:List Nat
 ia:ICode
 ib:ICode
 nx:Nat
 fr:Fr
 c0:Cx
 H0:Hp
 w0:World
structure WtR (P:Program) (G:Gl) (t:Wt) (h:List (Nat×Blk)) (pend:Option Code) (y:Nat) (A O:Nat→Prop) (w:World) (c:Cx) (L:Loop):Prop where
 rc:w.heap[y]?=some (.loop L)
 st:L.state=if pend.isNone then .ready else .done
 pend:L.pending=pend
 tr1:TrC P t.nt L.assign t.ia
 tr2:TrC P t.nt L.body t.ib
 ps:L.params.toList=t.ps
 tm:L.tmps=t.tm
 hr:HRel G c (look h) (fun r=>r<t.nx) t.fr w
 hA:∀ g,c.A g→A g
 hO:∀ g,c.O g→O g
 oy:O y
 ny:¬ c.O y
 pl:∀ r b g m,look h r=some b→c.fm r=some (g,m)→O g∧g≠y
 hy:c.y=t.c0.y
 cA:∀ g,t.c0.A g→c.A g
 hb:HB t.nx t.c0 t.H0 c (look h)
 hw:∀ g,t.c0.A g→w.heap[g]?=t.w0.heap[g]?
def wfr (P:Program) (G:Gl) (t:Wt) (h:List (Nat×Blk)) (pend:Option Code):Fr where
 P:=fun y A O w=>∃ c L,WtR P G t h pend y A O w c L
 mono:=by
  rintro y A A' O w w' ⟨c,L,k⟩ hA hw
  exact ⟨c,L,(hw y (.inr k.oy)).trans k.rc,k.st,k.pend,k.tr1,k.tr2,k.ps,k.tm,k.hr.same (fun r b g m h1 h2=>hw g (.inr (k.pl r b g m h1 h2).1)) (fun g hg=>hw g (.inl (k.hA g hg))) (fun g hg=>hw g (.inr (k.hO g hg))),fun g hg=>hA g (k.hA g hg),k.hO,k.oy,k.ny,k.pl,k.hy,k.cA,k.hb,fun g hg=>(hw g (.inl (k.hA g (k.cA g hg)))).trans (k.hw g hg)⟩
structure Wt.Ok (t:Wt):Prop where
 size:t.tm.size=t.nt
 psl:∀ p∈t.ps,p<t.nt
 env:∀ k v,look t.env k=some v→∃ cv,t.tm[k]?=some cv∧VRel t.c0 t.H0 (fun r=>r<t.nx) t.w0 v cv
 lt:∀ r b,t.H0 r=some b→r<t.nx
theorem HB.step {n:Nat} {c c':Cx} {H H':Hp} (h:HB n c H c' H') (hy:c'.y=c.y) (hA:∀ g,c.A g→c'.A g) (hlt:∀ r b,H r=some b→r<n):HStep c H (fun r=>r<n) c' H' (fun r=>r<n):=
 ⟨fun _ h=>h,hy,hA,fun r T cs hr=>h.var r T cs (hlt _ _ hr) hr,fun r T es xs hu hr=>h.row r T es xs hu hr,fun r es hr=>h.mp r es (hlt _ _ hr) hr,fun r hr=>h.dm r (hlt _ _ hr) hr,fun r T cs hu hr=>h.arr r T cs hu hr⟩
def zipE:List Nat→List V→List (Nat×V)→List (Nat×V)
 | p::ps,v::vs,e=>zipE ps vs ((p,v)::e)
 | _,_,e=>e
theorem zipE_ok {c:Cx} {H:Hp} {U:Nat→Prop} {w:World} {nt:Nat}:∀ {ps:List Nat} {vs:List V} {args:List Value} {e:List (Nat×V)} {tm:Array Value},ps.length=args.length→vs.length=args.length→(∀ p∈ps,p<nt)→tm.size=nt→(∀ (i:Nat) x v,vs[i]?=some x→args[i]?=some v→VRel c H U w x v) →
  (∀ k v,look e k=some v→∃ cv,tm[k]?=some cv∧VRel c H U w v cv) →
  ((ps.zip args).foldl (fun tmps (x:Nat×Value)=>tmps.setIfInBounds x.1 x.2) tm).size=nt∧∀ k v,look (zipE ps vs e) k=some v→∃ cv,((ps.zip args).foldl (fun tmps (x:Nat×Value)=>tmps.setIfInBounds x.1 x.2) tm)[k]?=some cv∧VRel c H U w v cv
 | [],vs,args,e,tm,hl,_,_,hs,_,he=>by
  cases args with
  | nil=>exact ⟨hs,by simpa [zipE] using he⟩
  | cons=>simp at hl
 | p::ps,[],args,e,tm,hl,hl2,_,hs,_,he=>by cases args<;>simp at hl hl2
 | p::ps,v::vs,args,e,tm,hl,hl2,hp,hs,hv,he=>by
  cases args with
  | nil=>simp at hl
  | cons a args=>
   rw [List.zip_cons_cons,List.foldl_cons]
   refine zipE_ok (by simpa using hl) (by simpa using hl2) (fun q hq=>hp q (by simp [hq])) (by simpa using hs) (fun i x v hx hv'=>hv (i+1) x v (by simpa using hx) (by simpa using hv')) (fun k u hk=>?_)
   rw [look_cons] at hk
   by_cases ek:p=k
   ·subst ek;rw [if_pos rfl] at hk;cases hk
    exact ⟨a,by rw [Array.getElem?_setIfInBounds_self_of_lt (by rw [hs];exact hp p (by simp))],hv 0 v a (by simp) (by simp)⟩
   ·rw [if_neg ek] at hk
    obtain ⟨cv,h1,h2⟩:=he k u hk
    exact ⟨cv,by rw [Array.getElem?_setIfInBounds_ne ek];exact h1,h2⟩
def V.isD:V→Bool
 | .d _=>true
 | .fp _ _=>true
 | .agg cs=>isDs cs
 | .tup cs=>isDs cs
 | _=>false
where isDs:List V→Bool
 | []=>true
 | v::vs=>V.isD v&&isDs vs
theorem isDs_get:∀ (cs:List V) (i:Nat) x,V.isD.isDs cs=true→cs[i]?=some x→x.isD=true:=by
 intro cs
 induction cs with
 | nil=>intro i x _ hx;simp at hx
 | cons y ys ih=>
  intro i x hb hx
  simp only [V.isD.isDs,Bool.and_eq_true] at hb
  cases i with
  | zero=>simp at hx;subst hx;exact hb.1
  | succ i=>exact ih i x hb.2 (by simpa using hx)
theorem VRel.dat {c c':Cx} {H H':Hp} {U U':Nat→Prop} {w:World} {x:V} {v:Value} (h:VRel c H U w x v) (hn:x.isD=true) (hA:∀ g,c.A g→c'.A g):VRel c' H' U' w x v:=by
 induction h with
 | d x v h=>exact .d x v (h.mono hA (fun _ _=>rfl))
 | fp row off b o hb h=>exact .fp row off b o (hA _ hb) (fun j x hj=>let ⟨cv,h1,h2⟩:=h j x hj;⟨cv,h1,h2.mono hA (fun _ _=>rfl)⟩)
 | agg cs vs hl h h1 ih=>simp only [V.isD] at hn;exact .agg cs vs hl (fun i x v hx hv=>ih i x v hx hv (isDs_get _ i x hn hx)) h1
 | tup cs vs hl h ih=>simp only [V.isD] at hn;exact .tup cs vs hl (fun i x v hx hv=>ih i x v hx hv (isDs_get _ i x hn hx))
 | _=>simp [V.isD] at hn
def rdE:Exit→Option Code→Prop
 | .normal,none=>True
 | .ret,some .ret=>True
 | .exit i,some (.exit j)=>i=j
 | _,_=>False
structure RdQ (nx:Nat) (fr:Fr) (h h':List (Nat×Blk)) (pend:Option Code) (e:Exit) (σ:St):Prop where
 e:rdE e pend
 fr:σ.fr=fr
 heap:∀ r b,look h' r=some b→look σ.heap r=some b∧r<nx∧b.okR nx (fun q=>(look h' q).isSome)=true
 keep:∀ r,(look h r).isSome=true→(look h' r).isSome=true
theorem HRel.subH {c:Cx} {H H':Hp} {n n':Nat} {fr:Fr} {w:World} (hh:HRel G c H (fun r=>r<n) fr w) (hs:∀ r b,H' r=some b→H r=some b∧r<n'∧b.okR n' (fun q=>(H' q).isSome)=true):HRel G c H' (fun r=>r<n') fr w:=by
 have hH:∀ r b,H' r=some b→H r=some b:=fun r b hr=>(hs r b hr).1
 refine ⟨fun r b hr=>(hs r b hr).2.1,fun r b hr=>?_,fun r r' b b' g m m' h1 h2 h3 h4=>hh.inj r r' b b' g m m' (hH _ _ h1) (hH _ _ h2) h3 h4,fun r b g m h1 h2=>hh.nA r b g m (hH _ _ h1) h2,fun r b g m h1 h2=>hh.nO r b g m (hH _ _ h1) h2,hh.AO,hh.Alt,hh.Olt,hh.fr,hh.gl⟩
 obtain ⟨h1,h2,h3⟩:=hs r b hr
 refine (hh.pl r b h1).imp (fun ⟨g,m,hf,hB⟩=>⟨g,m,hf,?_⟩) id
 cases b with
 | var T cs=>
  obtain ⟨cur,p1,p2,p3⟩:=hB
  exact ⟨cur,p1,p2,fun j x cv hx hcv=>let ⟨q1,q2⟩:=p3 j x cv hx hcv;⟨q1.sub hH (okRs_get _ j x h3 hx),q2⟩⟩
 | row T es xs=>exact hB
 | mp es=>exact hB
 | dm=>exact hB
 | dead=>exact hB
 | arr T cs=>
  obtain ⟨cur,p1,p2,p3⟩:=hB
  exact ⟨cur,p1,p2,fun j x cv hx hcv=>let ⟨q1,q2⟩:=p3 j x cv hx hcv;⟨q1.sub hH (okRs_get _ j x h3 hx),q2⟩⟩
theorem zip_fold (ps:Array Nat) (args:Array Value) (tm:Array Value):(ps.zip args).foldl (fun tmps (t,a)=>tmps.setIfInBounds t a) tm=(ps.toList.zip args.toList).foldl (fun tmps (x:Nat×Value)=>tmps.setIfInBounds x.1 x.2) tm:=by
 rw [← Array.foldl_toList,Array.toList_zip]
set_option maxHeartbeats 800000 in
theorem wt_round {t:Wt} (ht:t.Ok) {h h':List (Nat×Blk)} {vs:List V} {pend:Option Code} (hl:t.ps.length=vs.length) (hd:V.isD.isDs vs=true)
  (hbody:∀ l,AW P G t.nt (Fence.wide.inRound l) t.ia (thenQ (AW P G t.nt (Fence.wide.inRound l) t.ib (RdQ t.nx t.fr h h' pend)) (fun _ _=>False)) ⟨zipE t.ps vs t.env,h,t.nx,t.fr,[],t.nx⟩) :
  YCall P G (wfr P G t h none) vs (.d (.bool pend.isNone)) (wfr P G t h' pend):=by
 intro c w args hsz hargs hH
 obtain ⟨cw,L,k⟩:=hH.fr
 have hpsz:args.size=L.params.size:=by rw [hsz,← hl,← k.ps,Array.length_toList]
 have hOy:c.O c.y:=k.oy
 have hnAy:¬ c.A c.y:=fun ha=>hH.AO _ ha hOy
 have hylt:c.y<w.heap.size:=(Array.getElem?_eq_some_iff.1 k.rc).1
 let cA:Cx:={ cw with A:=c.A }
 have hrA:HRel G cA (look h) (fun r=>r<t.nx) t.fr w:=k.hr.growA k.hA (fun r b g m h1 h2 ha=>hH.AO g ha (k.pl r b g m h1 h2).1) (fun g ha ho=>hH.AO g ha (k.hO g ho)) hH.Alt
 have hsw:HStep t.c0 t.H0 (fun r=>r<t.nx) cA (look h) (fun r=>r<t.nx):=
  (HB.step (c':=cA) ⟨k.hb.var,k.hb.row,k.hb.mp,k.hb.dm,k.hb.arr⟩ k.hy (fun g hg=>k.hA g (k.cA g hg)) ht.lt)
 have henv:=zipE_ok (c:=cA) (H:=look h) (U:=fun r=>r<t.nx) (w:=w) (nt:=t.nt) (ps:=t.ps) (vs:=vs) (args:=args.toList) (e:=t.env) (tm:=t.tm) (by rw [hl,Array.length_toList];exact hsz.symm) (by rw [Array.length_toList];exact hsz.symm) ht.psl ht.size
  (fun i x v hx hv=>(hargs i x v hx (by simpa using hv)).dat (isDs_get _ i x hd hx) (fun _ h=>h)) (fun q v hq=>by
   obtain ⟨cv,h1,h2⟩:=ht.env q v hq
   exact ⟨cv,h1,h2.mono (fun g hg=>k.hw g hg) hsw⟩)
 have hrun:=run_yield (P:=P) (args:=args) k.rc hpsz
 rw [zip_fold,k.ps,k.tm] at hrun
 refine ⟨_,_,_,_,_,w,hrun,roundIn_of_wpIn trivial ?_⟩
 have hR0:RelS G t.nt cA ⟨zipE t.ps vs t.env,h,t.nx,t.fr,[],t.nx⟩ { tmps:=(t.ps.zip args.toList).foldl (fun tmps (x:Nat×Value)=>tmps.setIfInBounds x.1 x.2) t.tm,defers:=[] } w:=⟨⟨henv.1,henv.2,hrA⟩,rfl,Nat.le_refl _⟩
 refine wpIn_mono (hbody c.y L.assign k.tr1 cA _ w hR0) ?_
 rintro e a1 w1 ⟨σ1,c1,hq,hR1,hx1⟩
 cases e<;>try exact hq.elim
 -- the record,behind the assignments
 have hny1:∀ r b m,look h r=some b→cA.fm r≠some (c.y,m):=fun r b m h1 h2=>(k.pl r b c.y m h1 h2).2 rfl
 have hrec1:w1.heap[c.y]?=some (.loop L):=(hx1.x.same c.y hylt hny1 k.ny).trans k.rc
 have hbr:=run_beginRound (P:=P) hrec1 (by rw [k.st];rfl)
 refine ⟨_,hbr,?_⟩
 generalize hw2:w1.putObj c.y (.loop { L with state:=.busy })=w2
 have hylt1:c.y<w1.heap.size:=(Array.getElem?_eq_some_iff.1 hrec1).1
 have hoth2:∀ g,g≠c.y→w2.heap[g]?=w1.heap[g]?:=fun g hg=>by rw [← hw2];exact World.putObj_heap_other hg
 have hrec2:w2.heap[c.y]?=some (.loop { L with state:=.busy }):=by rw [← hw2];exact World.putObj_heap_same hylt1
 have hp1:∀ r b m,look σ1.heap r=some b→c1.fm r≠some (c.y,m):=fun r b m h1 h2=>by
  rcases hx1.x.pl r b c.y m h1 h2 with h3 | h3 | ⟨r0,b0,m0,h3,h4⟩
  ·omega
  ·exact k.ny h3
  ·exact hny1 r0 b0 m0 h3 h4
 have hA1:¬ c1.A c.y:=fun ha=>by
  rcases hx1.x.A' c.y ha with h3 | h3 | h3 | ⟨r0,b0,m0,h3,h4⟩
  ·exact hnAy h3
  ·omega
  ·exact k.ny h3
  ·exact hny1 r0 b0 m0 h3 h4
 have hO1:¬ c1.O c.y:=fun ha=>by
  rcases hx1.x.O' c.y ha with h3 | h3 | ⟨r0,b0,m0,h3,h4⟩
  ·omega
  ·exact k.ny h3
  ·exact hny1 r0 b0 m0 h3 h4
 have hh2:HRel G c1 (look σ1.heap) (fun r=>r<σ1.nx) σ1.fr w2:=hR1.R.h.same (fun r b g m h1 h2=>hoth2 g (fun e=>hp1 r b m h1 (e▸h2))) (fun g hg=>hoth2 g (fun e=>hA1 (e▸hg))) (fun g hg=>hoth2 g (fun e=>hO1 (e▸hg)))
 have hR2:RelS G t.nt c1 σ1 a1 w2:=by
  refine ⟨⟨hR1.R.nt,fun q v hq=>?_,hh2⟩,hR1.df,hR1.base⟩
  obtain ⟨cv,h1,h2⟩:=hR1.R.env q v hq
  exact ⟨cv,h1,h2.mono (fun g hg=>hoth2 g (fun e=>hA1 (e▸hg))) (HStep.refl _ _ _)⟩
 refine wpIn_mono (hq L.body k.tr2 c1 a1 w2 hR2) ?_
 rintro e2 a3 w3 ⟨σ3,c3,hq3,hR3,hx3⟩
 have hylt2:c.y<w2.heap.size:=(Array.getElem?_eq_some_iff.1 hrec2).1
 have hrec3:w3.heap[c.y]?=some (.loop { L with state:=.busy }):=(hx3.x.same c.y hylt2 hp1 hO1).trans hrec2
 have hylt3:c.y<w3.heap.size:=(Array.getElem?_eq_some_iff.1 hrec3).1
 have hp3:∀ r b m,look σ3.heap r=some b→c3.fm r≠some (c.y,m):=fun r b m h1 h2=>by
  rcases hx3.x.pl r b c.y m h1 h2 with h3 | h3 | ⟨r0,b0,m0,h3,h4⟩
  ·omega
  ·exact hO1 h3
  ·exact hp1 r0 b0 m0 h3 h4
 have hA3:¬ c3.A c.y:=fun ha=>by
  rcases hx3.x.A' c.y ha with h3 | h3 | h3 | ⟨r0,b0,m0,h3,h4⟩
  ·exact hA1 h3
  ·omega
  ·exact hO1 h3
  ·exact hp1 r0 b0 m0 h3 h4
 have hO3:¬ c3.O c.y:=fun ha=>by
  rcases hx3.x.O' c.y ha with h3 | h3 | ⟨r0,b0,m0,h3,h4⟩
  ·omega
  ·exact hO1 h3
  ·exact hp1 r0 b0 m0 h3 h4
 have hend:=run_endRound (P:=P) pend hrec3
 generalize hw4:w3.putObj c.y (.loop { { L with state:=.busy } with state:=if pend.isNone then .ready else .done,pending:=pend })=w4 at hend
 have hoth4:∀ g,g≠c.y→w4.heap[g]?=w3.heap[g]?:=fun g hg=>by rw [← hw4];exact World.putObj_heap_other hg
 have hrec4:w4.heap[c.y]?=some (.loop { L with state:=if pend.isNone then .ready else .done,pending:=pend }):=by rw [← hw4];exact World.putObj_heap_same hylt3
 have hsz4:w4.heap.size=w3.heap.size:=by rw [← hw4];simp
 have hsz2:w2.heap.size=w1.heap.size:=by rw [← hw2];simp
 have hle1:=hx1.x.size
 have hle3:=hx3.x.size
 have hos2:w2.os=w1.os∧w2.tape=w1.tape∧w2.output=w1.output:=by rw [← hw2];exact ⟨rfl,rfl,rfl⟩
 have hos4:w4.os=w3.os∧w4.tape=w3.tape∧w4.output=w3.output:=by rw [← hw4];exact ⟨rfl,rfl,rfl⟩
 -- where things lie now,as whoever waits sees it
 have hpl3:∀ r b g m,look σ3.heap r=some b→c3.fm r=some (g,m)→w.heap.size≤g∨c.O g:=fun r b g m h1 h2=>by
  rcases hx3.x.pl r b g m h1 h2 with h3 | h3 | ⟨r0,b0,m0,h3,h4⟩
  ·exact .inl (by omega)
  ·rcases hx1.x.O' g h3 with h5 | h5 | ⟨r1,b1,m1,h5,h6⟩
   ·exact .inl h5
   ·exact .inr (k.hO g h5)
   ·exact .inr (k.pl _ _ _ _ h5 h6).1
  ·rcases hx1.x.pl r0 b0 g m0 h3 h4 with h5 | h5 | ⟨r1,b1,m1,h5,h6⟩
   ·exact .inl h5
   ·exact .inr (k.hO g h5)
   ·exact .inr (k.pl _ _ _ _ h5 h6).1
 have hOO3:∀ g,c3.O g→w.heap.size≤g∨c.O g:=fun g hg=>by
  rcases hx3.x.O' g hg with h3 | h3 | ⟨r0,b0,m0,h3,h4⟩
  ·exact .inl (by omega)
  ·rcases hx1.x.O' g h3 with h5 | h5 | ⟨r1,b1,m1,h5,h6⟩
   ·exact .inl h5
   ·exact .inr (k.hO g h5)
   ·exact .inr (k.pl _ _ _ _ h5 h6).1
  ·rcases hx1.x.pl r0 b0 g m0 h3 h4 with h5 | h5 | ⟨r1,b1,m1,h5,h6⟩
   ·exact .inl h5
   ·exact .inr (k.hO g h5)
   ·exact .inr (k.pl _ _ _ _ h5 h6).1
 have hAA3:∀ g,c3.A g→c.A g∨w.heap.size≤g∨c.O g:=fun g hg=>by
  rcases hx3.x.A' g hg with h3 | h3 | h3 | ⟨r0,b0,m0,h3,h4⟩
  ·rcases hx1.x.A' g h3 with h5 | h5 | h5 | ⟨r1,b1,m1,h5,h6⟩
   ·exact .inl h5
   ·exact .inr (.inl h5)
   ·exact .inr (.inr (k.hO g h5))
   ·exact .inr (.inr (k.pl _ _ _ _ h5 h6).1)
  ·exact .inr (.inl (by omega))
  ·rcases hx1.x.O' g h3 with h5 | h5 | ⟨r1,b1,m1,h5,h6⟩
   ·exact .inr (.inl h5)
   ·exact .inr (.inr (k.hO g h5))
   ·exact .inr (.inr (k.pl _ _ _ _ h5 h6).1)
  ·rcases hx1.x.pl r0 b0 g m0 h3 h4 with h5 | h5 | ⟨r1,b1,m1,h5,h6⟩
   ·exact .inr (.inl h5)
   ·exact .inr (.inr (k.hO g h5))
   ·exact .inr (.inr (k.pl _ _ _ _ h5 h6).1)
 have hsame:∀ g,g<w.heap.size→¬ c.O g→w4.heap[g]?=w.heap[g]?:=fun g hg ho=>by
  have hgy:g≠c.y:=fun e=>ho (e▸hOy)
  have hn0:∀ r b m,look h r=some b→cA.fm r≠some (g,m):=fun r b m h1 h2=>ho (k.pl r b g m h1 h2).1
  have hn1:∀ r b m,look σ1.heap r=some b→c1.fm r≠some (g,m):=fun r b m h1 h2=>by
   rcases hx1.x.pl r b g m h1 h2 with h3 | h3 | ⟨r0,b0,m0,h3,h4⟩
   ·omega
   ·exact ho (k.hO g h3)
   ·exact hn0 r0 b0 m0 h3 h4
  have ho1:¬ c1.O g:=fun h2=>by
   rcases hx1.x.O' g h2 with h3 | h3 | ⟨r0,b0,m0,h3,h4⟩
   ·omega
   ·exact ho (k.hO g h3)
   ·exact hn0 r0 b0 m0 h3 h4
  rw [hoth4 g hgy,hx3.x.same g (by omega) hn1 ho1,hoth2 g hgy,hx1.x.same g hg hn0 (fun h3=>ho (k.hO g h3))]
 have hAup:∀ g,c.A g→c3.A g:=fun g hg=>hx3.x.A g (hx1.x.A g hg)
 have fin:RdQ t.nx t.fr h h' pend e2 σ3→∃ rv c',Ending.returned (.bool pend.isNone)=.returned rv∧VRel c' (look []) (fun r=>r<0) w4 (.d (.bool pend.isNone)) rv∧HStep c (look []) (fun r=>r<0) c' (look []) (fun r=>r<0) ∧
   HRel G c' (look []) (fun r=>r<0) (wfr P G t h' pend) w4∧Ext c (look []) w c' (look []) w4:=by
  rintro ⟨_,hfr,hheap,hkeep⟩
  refine ⟨.bool pend.isNone,{ fm:=fun _=>none,A:=c3.A,O:=fun g=>¬ c3.A g∧g<w4.heap.size∧(c.O g∨w.heap.size≤g),y:=c.y },rfl,.d _ _ (.bool _),⟨fun _ h=>h,rfl,hAup,fun r T cs h=>(look_nil h).elim,fun r T es xs h=>absurd h (Nat.not_lt_zero _),fun r es h=>(look_nil h).elim,fun r h=>(look_nil h).elim,fun r T cs h=>absurd h (Nat.not_lt_zero _)⟩,?_,?_⟩
  ·have hsub:=hR3.R.h.subH (H':=look h') (n':=t.nx) (fun r b hr=>hheap r b hr)
   rw [hfr] at hsub
   have hsub4:=hsub.same (w':=w4) (fun r b g m h1 h2=>hoth4 g (fun e=>hp3 r b m (hheap r b h1).1 (e▸h2))) (fun g hg=>hoth4 g (fun e=>hA3 (e▸hg))) (fun g hg=>hoth4 g (fun e=>hO3 (e▸hg)))
   refine ⟨fun r b h=>(look_nil h).elim,fun r b h=>(look_nil h).elim,fun r r' b b' g m m' h=>(look_nil h).elim,fun r b g m h=>(look_nil h).elim,fun r b g m h=>(look_nil h).elim,fun g ha ho=>ho.1 ha,hsub4.Alt,fun g hg=>hg.2.1,?_,fun g row hg=>?_⟩
   ·have hlt4:∀ r b g m,look h' r=some b→c3.fm r=some (g,m)→g<w4.heap.size:=fun r b g m h1 h2=>by
     obtain ⟨g1,m1,hf1,hb1⟩:=(hsub4.pl r b h1).resolve_right (fun hn=>(by rw [h2] at hn;cases hn.1))
     rw [h2] at hf1;cases hf1
     cases b with
     | var T cs=>obtain ⟨cur,hc,_⟩:=hb1;exact (Array.getElem?_eq_some_iff.1 hc).1
     | row T es xs=>obtain ⟨cur,hc,_⟩:=hb1;exact (Array.getElem?_eq_some_iff.1 hc).1
     | mp es=>obtain ⟨en,cl,hc,_⟩:=hb1;exact (Array.getElem?_eq_some_iff.1 hc).1
     | dm=>exact (Array.getElem?_eq_some_iff.1 (show w4.heap[g]?=_ from hb1)).1
     | dead=>exact hb1.elim
     | arr T cs=>obtain ⟨cur,hc,_⟩:=hb1;exact (Array.getElem?_eq_some_iff.1 hc).1
    refine ⟨c3,_,hrec4,rfl,rfl,k.tr1,k.tr2,k.ps,k.tm,hsub4,fun _ h=>h,fun g hg=>⟨fun ha=>hsub4.AO g ha hg,hsub4.Olt g hg,(hOO3 g hg).symm⟩,⟨hA3,(by show c.y<w4.heap.size;omega),.inl hOy⟩,hO3,fun r b g m h1 h2=>⟨⟨hsub4.nA r b g m h1 h2,hlt4 r b g m h1 h2,(hpl3 r b g m (hheap r b h1).1 h2).symm⟩,fun e=>hp3 r b m (hheap r b h1).1 (e▸h2)⟩,
     (hx3.x.hy.trans hx1.x.hy).trans k.hy,fun g hg=>hAup g (k.hA g (k.cA g hg)),?_,fun g hg=>?_⟩
    ·have hb13:HB t.nx cA (look h) c3 (look σ3.heap):=by
      have h1:HB t.nx cA (look h) c1 (look σ1.heap):=hx1.b
      have h2:HB σ1.base c1 (look σ1.heap) c3 (look σ3.heap):=hx3.b
      rw [hx1.base] at h2
      exact h1.trans h2
     have hb03:HB t.nx t.c0 t.H0 c3 (look σ3.heap):=HB.trans (c':=cA) (H':=look h) ⟨k.hb.var,k.hb.row,k.hb.mp,k.hb.dm,k.hb.arr⟩ hb13
     have hin:∀ r b,r<t.nx→look σ3.heap r=some b→(∀ T es xs,b≠.row T es xs)→(look h r).isSome=true→look h' r=some b:=fun r b hr hb _ hs=>by
      obtain ⟨b',hb'⟩:=Option.isSome_iff_exists.1 (hkeep r hs)
      have:=(hheap r b' hb').1
      rw [hb] at this;cases this
      exact hb'
     refine ⟨fun r T cs hr h0=>?_,fun r T es xs hr h0=>?_,fun r es hr h0=>?_,fun r hr h0=>?_,fun r T cs hr h0=>hb03.arr r T cs hr (hheap r _ h0).1⟩
     ·obtain ⟨e1,cs1,h1⟩:=k.hb.var r T cs hr h0
      obtain ⟨e2,cs2,h2⟩:=hb03.var r T cs hr h0
      exact ⟨e2,cs2,hin r _ hr h2 (fun _ _ _ h=>by cases h) (by rw [h1];rfl)⟩
     ·exact hb03.row r T es xs hr (hheap r _ h0).1
     ·obtain ⟨e1,cs1,h1⟩:=k.hb.mp r es hr h0
      obtain ⟨e2,cs2,h2⟩:=hb03.mp r es hr h0
      exact ⟨e2,cs2,hin r _ hr h2 (fun _ _ _ h=>by cases h) (by rw [h1];rfl)⟩
     ·obtain ⟨e1,h1⟩:=k.hb.dm r hr h0
      obtain ⟨e2,h2⟩:=hb03.dm r hr h0
      exact ⟨e2,hin r _ hr h2 (fun _ _ _ h=>by cases h) (by rw [h1];rfl)⟩
    ·rw [hsame g (hH.Alt g (k.hA g (k.cA g hg))) (fun ho=>hH.AO g (k.hA g (k.cA g hg)) ho)]
     exact k.hw g hg
   ·exact hsub4.gl g row hg
  ·refine ⟨by rw [hos4.1,hx3.x.os,hos2.1,hx1.x.os],by rw [hos4.2.1,hx3.x.tape,hos2.2.1,hx1.x.tape],by rw [hos4.2.2,hx3.x.output,hos2.2.2,hx1.x.output],by omega,rfl,fun g hg _ ho=>hsame g hg ho,fun r b g m h=>(look_nil h).elim,hAup,fun g hg=>(hAA3 g hg).imp id (Or.imp id .inl),fun g hg=>hg.2.2.elim (fun h=>.inr (.inl h)) .inl⟩
 cases e2 with
 | normal=>
  have he:=hq3.e
  cases pend with
  | none=>exact ⟨_,w4,hend,fin hq3⟩
  | some p=>exact he.elim
 | ret=>
  have he:=hq3.e
  cases pend with
  | none=>exact he.elim
  | some p=>
   cases p<;>try exact he.elim
   exact ⟨_,w4,hend,fin hq3⟩
 | exit i=>
  have he:=hq3.e
  cases pend with
  | none=>exact he.elim
  | some p=>
   cases p<;>try exact he.elim
   cases he
   exact ⟨_,w4,hend,fin hq3⟩
 | goto l=>exact (by have he:=hq3.e;cases pend<;>exact he.elim)
 | panic ch=>exact (by have he:=hq3.e;cases pend<;>exact he.elim)
 | outgrown=>exact (by have he:=hq3.e;cases pend<;>exact he.elim)
end
end Go.Abs
namespace Go.Abs
def V.noY:V→Bool
 | .yld=>false
 | .clo _ first caps=>noYs first&&noYs caps
 | .agg cs=>noYs cs
 | .tup cs=>noYs cs
 | _=>true
where noYs:List V→Bool
 | []=>true
 | v::vs=>V.noY v&&noYs vs
theorem noYs_get:∀ (cs:List V) (i:Nat) x,V.noY.noYs cs=true→cs[i]?=some x→x.noY=true:=by
 intro cs
 induction cs with
 | nil=>intro i x _ hx;simp at hx
 | cons y ys ih=>
  intro i x hb hx
  simp only [V.noY.noYs,Bool.and_eq_true] at hb
  cases i with
  | zero=>simp at hx;subst hx;exact hb.1
  | succ i=>exact ih i x hb.2 (by simpa using hx)
def Blk.noY:Blk→Bool
 | .var _ cs=>V.noY.noYs cs
 | .arr _ cs=>V.noY.noYs cs
 | _=>true
theorem VRel.atY {c c':Cx} {H:Hp} {U:Nat→Prop} {w:World} {x:V} {v:Value} (h:VRel c H U w x v) (hn:x.noY=true) (hf:∀ r,c'.fm r=c.fm r) (hA:∀ g,c.A g→c'.A g):VRel c' H U w x v:=by
 induction h with
 | undef=>exact .undef
 | d x v h=>exact .d x v (h.mono hA (fun _ _=>rfl))
 | fp row off b o hb h=>exact .fp row off b o (hA _ hb) (fun j x hj=>let ⟨cv,h1,h2⟩:=h j x hj;⟨cv,h1,h2.mono hA (fun _ _=>rfl)⟩)
 | ptr r off T g m cs hr h=>exact .ptr r off T g m cs hr ((hf r).trans h)
 | vsl r off n k T g m cs hb hr h=>exact .vsl r off n k T g m cs hb hr ((hf r).trans h)
 | asl r n ad hr hb h=>exact .asl r n ad hr hb (fun T cs h1=>let ⟨g,m,h3,h4⟩:=h T cs h1;⟨g,m,(hf r).trans h3,h4⟩)
 | aptr r off ad hr h=>exact .aptr r off ad hr (fun T cs h1=>let ⟨g,m,h3,h4⟩:=h T cs h1;⟨g,m,(hf r).trans h3,h4⟩)
 | eptr r n i off ad hr hb h=>exact .eptr r n i off ad hr hb (fun T es xs h1 h2=>let ⟨g,m,h3,h4⟩:=h T es xs h1 h2;⟨g,m,(hf r).trans h3,h4⟩)
 | own r n a m hr hb hb2 h=>exact .own r n a m hr hb hb2 (fun T es xs h1 h2=>(h T es xs h1 h2).imp (fun ⟨g,h3,h4⟩=>⟨g,(hf r).trans h3,h4⟩) (fun ⟨h3,h4⟩=>⟨(hf r).trans h3,h4⟩))
 | map r g m es hr h=>exact .map r g m es hr ((hf r).trans h)
 | clo f first caps fs cs h1 h2 h3 h4 ih1 ih2=>
  simp only [V.noY,Bool.and_eq_true] at hn
  exact .clo f first caps fs cs h1 h2 (fun i x v hx hv=>ih1 i x v hx hv (noYs_get _ i x hn.1 hx)) (fun i x v hx hv=>ih2 i x v hx hv (noYs_get _ i x hn.2 hx))
 | wmp g=>exact .wmp g
 | yld=>simp [V.noY] at hn
 | opq v h=>exact .opq v h
 | fsl es xs a h=>exact .fsl es xs a (h.mono hA (fun _ _=>rfl))
 | fmp es g en clock hA0 hg hsz hen=>exact .fmp es g en clock (hA g hA0) hg hsz (fun i k v e h1 h2=>⟨(hen i k v e h1 h2).1.mono hA (fun _ _=>rfl),(hen i k v e h1 h2).2.mono hA (fun _ _=>rfl)⟩)
 | agg cs vs hl h h1 ih=>simp only [V.noY] at hn;exact .agg cs vs hl (fun i x v hx hv=>ih i x v hx hv (noYs_get _ i x hn hx)) h1
 | tup cs vs hl h ih=>simp only [V.noY] at hn;exact .tup cs vs hl (fun i x v hx hv=>ih i x v hx hv (noYs_get _ i x hn hx))
def pendQ (Q:Post):Option Code→St→Prop
 | none,σ=>Q .normal σ
 | some .ret,σ=>Q .ret σ
 | some (.exit i),σ=>Q (.exit i) σ
 | _,_=>False
section
variable {P:Program} {G:Gl} {nt:Nat} {F:Fence}
theorem HRel.blt {c:Cx} {H:Hp} {U:Nat→Prop} {fr:Fr} {w:World} (h:HRel G c H U fr w) {r:Nat} {b:Blk} {g m:Nat} (hr:H r=some b) (hf:c.fm r=some (g,m)):g<w.heap.size:=by
 obtain ⟨g1,m1,hf1,hb1⟩:=(h.pl r b hr).resolve_right (fun hn=>(by rw [hf] at hn;cases hn.1))
 rw [hf] at hf1;cases hf1
 cases b with
 | var T cs=>obtain ⟨cur,hc,_⟩:=hb1;exact (Array.getElem?_eq_some_iff.1 hc).1
 | row T es xs=>obtain ⟨cur,hc,_⟩:=hb1;exact (Array.getElem?_eq_some_iff.1 hc).1
 | mp es=>obtain ⟨en,cl,hc,_⟩:=hb1;exact (Array.getElem?_eq_some_iff.1 hc).1
 | dm=>exact (Array.getElem?_eq_some_iff.1 (show w.heap[g]?=_ from hb1)).1
 | dead=>exact hb1.elim
 | arr T cs=>obtain ⟨cur,hc,_⟩:=hb1;exact (Array.getElem?_eq_some_iff.1 hc).1
structure FrW (g:Nat) (I:Array MapEntry→Prop) (fr:Fr):Prop where
 at_:∀ {y A O w},fr.P y A O w→O g∧∃ en clock,w.heap[g]?=some (.map en clock)∧I en
 upd:∀ {y A O w w'},(∀ k,A k→¬ O k)→fr.P y A O w→(∀ k,k≠g→A k∨O k→w'.heap[k]?=w.heap[k]?)→(∃ en clock,w'.heap[g]?=some (.map en clock)∧I en)→fr.P y A O w'
theorem HRel.updW {c:Cx} {H:Hp} {U:Nat→Prop} {fr:Fr} {w w':World} {g:Nat} {I:Array MapEntry→Prop} (h:HRel G c H U fr w) (hW:FrW g I fr)
  (ho:∀ r b k m,H r=some b→c.fm r=some (k,m)→k≠g→w'.heap[k]?=w.heap[k]?) (hA:∀ k,c.A k→k≠g→w'.heap[k]?=w.heap[k]?) (hO:∀ k,c.O k→k≠g→w'.heap[k]?=w.heap[k]?)
  (hg:∃ en clock,w'.heap[g]?=some (.map en clock)∧I en):HRel G c H U fr w':=by
 have hOg:=(hW.at_ h.fr).1
 have hAg:∀ k,c.A k→k≠g:=fun k hk e=>h.AO k hk (e▸hOg)
 have hog:∀ r b k m,H r=some b→c.fm r=some (k,m)→k≠g:=fun r b k m h1 h2 e=>h.nO r b k m h1 h2 (e▸hOg)
 have lt:∀ k:Nat,k<w.heap.size→w'.heap[k]?=w.heap[k]?→k<w'.heap.size:=fun k hk e=>by
  rw [Array.getElem?_eq_getElem hk] at e
  exact (Array.getElem?_eq_some_iff.1 e).1
 have hA':∀ k,c.A k→w'.heap[k]?=w.heap[k]?:=fun k hk=>hA k hk (hAg k hk)
 exact ⟨h.lt,fun r b hr=>(h.pl r b hr).imp (fun ⟨k,m,hf,hB⟩=>⟨k,m,hf,hB.mono (ho r b k m hr hf (hog r b k m hr hf)) hA' (HStep.refl _ _ _)⟩) id,h.inj,h.nA,h.nO,h.AO,fun k hk=>lt k (h.Alt k hk) (hA' k hk),
  fun k hk=>(by
   by_cases e:k=g
   ·subst e;obtain ⟨en,cl,h1,_⟩:=hg;exact (Array.getElem?_eq_some_iff.1 h1).1
   ·exact lt k (h.Olt k hk) (hO k hk e)),
  hW.upd h.AO h.fr (fun k hk hor=>hor.elim (fun h=>hA k h hk) (fun h=>hO k h hk)) hg,fun k row hk=>let ⟨ha,hc⟩:=h.gl k row hk;⟨ha,fun j x hx=>let ⟨cv,h1,h2⟩:=hc j x hx;⟨cv,by rw [cell_of_heap (hA' k ha)];exact h1,h2.mono (fun _ h=>h) hA'⟩⟩⟩
theorem FrW.wfr {t:Wt} {h:List (Nat×Blk)} {pend:Option Code} {g:Nat} {I:Array MapEntry→Prop} (hW:FrW g I t.fr):FrW g I (wfr P G t h pend):=by
 refine ⟨fun {y A O w} ⟨c,L,k⟩=>?_,fun {y A O w w'} hAO ⟨c,L,k⟩ hs hg=>?_⟩
 ·obtain ⟨ho,hm⟩:=hW.at_ k.hr.fr
  exact ⟨k.hO g ho,hm⟩
 ·have hOg:=(hW.at_ k.hr.fr).1
  have hAg:∀ q,A q→q≠g:=fun q hq e=>hAO q hq (e▸k.hO g hOg)
  refine ⟨c,L,(hs y (fun e=>k.ny (e▸hOg)) (.inr k.oy)).trans k.rc,k.st,k.pend,k.tr1,k.tr2,k.ps,k.tm,?_,k.hA,k.hO,k.oy,k.ny,k.pl,k.hy,k.cA,k.hb,fun q hq=>(hs q (hAg q (k.hA q (k.cA q hq))) (.inl (k.hA q (k.cA q hq)))).trans (k.hw q hq)⟩
  exact k.hr.updW hW (fun r b q m h1 h2 hq=>hs q hq (.inr (k.pl r b q m h1 h2).1)) (fun q h1 hq=>hs q hq (.inl (k.hA q h1))) (fun q h1 hq=>hs q hq (.inr (k.hO q h1))) hg
structure LendR (ρ:Nat→Nat) (H0:List (Nat×Blk)) (n0:Nat) (hp h0:List (Nat×Blk)):Prop where
 lend:∀ q b,look H0 q=some b→q<n0∧b.lend=true∧b.okR n0 (fun q=>(look H0 q).isSome)=true∧(b.ren ρ).noY=true∧look hp (ρ q)=some (b.ren ρ)∧look h0 (ρ q)=none
 inj:∀ q q',(look H0 q).isSome=true→(look H0 q').isSome=true→ρ q=ρ q'→q=q'
set_option maxHeartbeats 800000 in
theorem AW.rfunW {σ:St} {f:Opd} {ps:List Nat} {ia ib:ICode} {Q:Post} {u:V} {g:Nat} {first caps:List V} (hf:ev G (look σ.env) f=some u) (hc:Callee u g first caps) (hbd:hasBody P g=true)
  {vs0:List V} {H0 H1:List (Nat×Blk)} {n0:Nat} {r0:V} {ρ:Nat→Nat} {env':List (Nat×V)} {h0 hN:List (Nat×Blk)} {pend:Option Code}
  (hsub:St.Sub { env:=env',heap:=h0,nx:=σ.nx,fr:=σ.fr,dfs:=σ.dfs,base:=σ.base } σ) (hl:LendR ρ H0 n0 σ.heap h0)
  (hvs:first++[.yld]++caps=V.ren.rens ρ vs0) (hny:V.noY.noYs first=true∧V.noY.noYs caps=true) (hok:V.okR.okRs n0 (fun q=>(look H0 q).isSome) vs0=true)
  (hspec:∀ W:List (Nat×Blk)→Option Code→Fr,(∀ g I h p,FrW g I σ.fr→FrW g I (W h p))→(∀ h vs h' p,ps.length=vs.length→V.isD.isDs vs=true →
    (∀ l,AW P G nt (Fence.wide.inRound l) ia (thenQ (AW P G nt (Fence.wide.inRound l) ib (RdQ (σ.nx+1) σ.fr h h' p)) (fun _ _=>False)) ⟨zipE ps vs env',h,σ.nx+1,σ.fr,[],σ.nx+1⟩)→YCall P G (W h none) vs (.d (.bool p.isNone)) (W h' p)) →
   SCall P G g vs0 H0 n0 (W ((σ.nx,.dm)::h0) none) r0 H1 n0 (W hN pend))
  (hk:pendQ Q pend { env:=env',heap:=hN,nx:=σ.nx+1,fr:=σ.fr,dfs:=σ.nx::σ.dfs,base:=σ.base }):AW P G nt Fence.wide (.rfun f ps ia ib) Q σ:=by
 intro code ht c a w hR
 cases ht with
 | @rfun fo _ psa asg bod _ _ hfo hps hta htb=>
  obtain ⟨hRs,hWs⟩:=hR.sub hsub
  have hfv:=ev_ok hR.R hfo hf
  -- the mark's block
  obtain ⟨hst1,hR1,hx1⟩:=hRs.R.new (a:=a) σ.nx 0 .dm (.deferred (some [])) (fun h=>Nat.lt_irrefl _ h) (fun hs hA=>heap_alloc_at _ _)
  generalize hw1:w.alloc (.deferred (some []))=w1 at hR1 hx1
  have hsz1:w1.heap.size=w.heap.size+1:=by rw [← hw1];simp
  let cd:Cx:=c.put σ.nx w.heap.size 0
  let L:Loop:={ state:=.ready,pending:=none,fn:=0,tmps:=a.tmps,params:=psa,assign:=asg,body:=bod,defers:=w.heap.size }
  refine wpIn_rangeFunc fun fn _=>?_
  let L:Loop:={ state:=.ready,pending:=none,fn:=fn,tmps:=a.tmps,params:=psa,assign:=asg,body:=bod,defers:=w.heap.size }
  generalize hw2:w1.alloc (.loop L)=w2
  have hold2:∀ k,k<w1.heap.size→w2.heap[k]?=w1.heap[k]?:=fun k hk=>by rw [← hw2];exact heap_alloc_old w1 _ k hk
  have hrec2:w2.heap[w.heap.size+1]?=some (.loop L):=by rw [← hw2,← hsz1];exact heap_alloc_at w1 _
  have hsz2:w2.heap.size=w.heap.size+2:=by rw [← hw2];simp [hsz1]
  have hus:usOf [σ.nx] (fun r=>r<σ.nx)=fun r=>r<σ.nx+1:=by
   funext r;simp only [usOf,List.mem_singleton,eq_iff_iff];omega
  rw [hus] at hR1 hst1
  have hhd:upd (look h0) σ.nx .dm=look ((σ.nx,Blk.dm)::h0):=(look_upd _ _ _).symm
  simp only at hst1 hR1 hx1
  rw [hhd] at hR1 hst1 hx1
  have hh2:HRel G cd (look ((σ.nx,Blk.dm)::h0)) (fun r=>r<σ.nx+1) σ.fr w2:=hR1.h.same (fun r b g m h1 h2=>hold2 g (hR1.h.blt h1 h2)) (fun g hg=>hold2 g (hR1.h.Alt g hg)) (fun g hg=>hold2 g (hR1.h.Olt g hg))
  have hwA:∀ g,c.A g→w2.heap[g]?=w.heap[g]?:=fun g hg=>by
   have h1:=hRs.R.h.Alt g hg
   rw [hold2 g (by omega),← hw1];exact heap_alloc_old w _ g h1
  have hwo:∀ g,g<w.heap.size→w2.heap[g]?=w.heap[g]?:=fun g hg=>by
   rw [hold2 g (by omega),← hw1];exact heap_alloc_old w _ g hg
  let t:Wt:={ nt:=nt,env:=env',tm:=a.tmps,ps:=psa.toList,ia:=ia,ib:=ib,nx:=σ.nx+1,fr:=σ.fr,c0:=cd,H0:=look ((σ.nx,Blk.dm)::h0),w0:=w2 }
  have htok:t.Ok:=⟨hR.R.nt,hps,fun k v hk'=>by
   obtain ⟨cv,h1,h2⟩:=hRs.R.env k v hk'
   exact ⟨cv,h1,h2.mono hwA hst1⟩,fun r b hr=>hh2.lt r b hr⟩
  have hS:=hspec (wfr P G t) (fun g I h p hW=>FrW.wfr (t:=t) hW) (fun h vs h' p h1 h2 h3=>wt_round htok h1 h2 h3)
  let cg:Cx:={ fm:=fun q=>c.fm (ρ q),A:=c.A,O:=fun g=>g=w.heap.size+1∨c.O g∨∃ r b m,look ((σ.nx,Blk.dm)::h0) r=some b∧cd.fm r=some (g,m),y:=w.heap.size+1 }
  -- where blocks of those who wait lie
  have hpl2:∀ r b g m,look ((σ.nx,Blk.dm)::h0) r=some b→cd.fm r=some (g,m)→g<w.heap.size+1∧(g<w.heap.size→∃ b',look σ.heap r=some b'∧look h0 r=some b'∧c.fm r=some (g,m)):=fun r b g m h1 h2=>by
   have hlt:=hR1.h.blt h1 h2
   refine ⟨by omega,fun hg=>?_⟩
   rw [look_cons] at h1
   by_cases e:σ.nx=r
   ·subst e
    have:(g,m)=(w.heap.size,0):=by simpa [cd,Cx.put,upd] using h2.symm
    cases this;omega
   ·rw [if_neg e] at h1
    exact ⟨b,(hsub.heap r b h1).1,h1,(upd_other _ _ _ _ e).symm.trans h2⟩
  have hyO:∀ g,cg.O g→w.heap.size≤g∨c.O g∨∃ r0 b0 m0,look σ.heap r0=some b0∧c.fm r0=some (g,m0):=fun g hg=>by
   rcases hg with rfl | hg | ⟨r,b,m,h1,h2⟩
   ·exact .inl (by omega)
   ·exact .inr (.inl hg)
   ·rcases Nat.lt_or_ge g w.heap.size with h | h
    ·obtain ⟨b',h3,_,h4⟩:=(hpl2 r b g m h1 h2).2 h
     exact .inr (.inr ⟨r,b',m,h3,h4⟩)
    ·exact .inl h
  have hAO:∀ g,c.A g→¬ cg.O g:=fun g ha ho=>by
   rcases hyO g ho with h | h | ⟨r0,b0,m0,h1,h2⟩
   ·have:=hR.R.h.Alt g ha;omega
   ·exact hR.R.h.AO g ha h
   ·exact hR.R.h.nA _ _ _ _ h1 h2 ha
  have hhg:HRel G cg (look H0) (fun r=>r<n0) (wfr P G t ((σ.nx,Blk.dm)::h0) none) w2:=by
   refine ⟨fun q b hq=>(hl.lend q b hq).1,fun q b hq=>?_,fun q q' b b' g m m' h1 h2 f1 f2=>?_,fun q b g m h1 f1=>?_,fun q b g m h1 f1 ho=>?_,hAO,fun g hg=>by have:=hR.R.h.Alt g hg;omega,fun g hg=>?_,?_,fun g row hg=>?_⟩
   ·obtain ⟨l1,l2,l3,l4,l5,l6⟩:=hl.lend q b hq
    obtain ⟨g,m,hf,hB⟩:=(hR.R.h.pl _ _ l5).resolve_right (fun hn=>by
     obtain ⟨_,hu⟩:=hn
     cases b<;>first | (simp [Blk.lend] at l2;done) | (simp only [Blk.ren] at hu;cases hu))
    have hglt:=hR.R.h.blt l5 hf
    refine .inl ⟨g,m,hf,?_⟩
    cases b with
    | var T cs=>
     obtain ⟨cur,p1,p2,p3⟩:=hB
     refine ⟨cur,(hwo g hglt).trans p1,by rw [p2,rens_map,List.length_map],fun j x cv hx hcv=>?_⟩
     have hjx:(V.ren.rens ρ cs)[j]?=some (x.ren ρ):=by rw [rens_map,List.getElem?_map,hx];rfl
     obtain ⟨q1,q2⟩:=p3 j (x.ren ρ) cv hjx hcv
     have q3:=(q1.atY (c':={ c with y:=w.heap.size+1 }) (noYs_get _ j _ l4 hjx) (fun _=>rfl) (fun _ h=>h)).mono hwA (HStep.refl _ _ _)
     exact ⟨ren_in (c:={ c with y:=w.heap.size+1 }) (c0:=cg) (ρ:=ρ) (H:=look σ.heap) (U:=fun r=>r<σ.nx) (fun _=>rfl) (fun _ h=>h) rfl (fun q b hq=>(hl.lend q b hq).2.2.2.2.1) (okRs_get _ j x l3 hx) q3,q2⟩
    | mp es=>
     obtain ⟨en,clock,p1,p2,p3⟩:=hB
     exact ⟨en,clock,(hwo g hglt).trans p1,p2,fun i k v e hk' he=>let ⟨a,b⟩:=p3 i k v e hk' he;⟨a.mono (fun _ h=>h) hwA,b.mono (fun _ h=>h) hwA⟩⟩
    | _=>simp [Blk.lend] at l2
   ·exact hl.inj q q' (by rw [h1];rfl) (by rw [h2];rfl) (hR.R.h.inj _ _ _ _ _ _ _ (hl.lend q b h1).2.2.2.2.1 (hl.lend q' b' h2).2.2.2.2.1 f1 f2)
   ·exact hR.R.h.nA _ _ _ _ (hl.lend q b h1).2.2.2.2.1 f1
   ·have l5:=(hl.lend q b h1).2.2.2.2.1
    have hglt:=hR.R.h.blt l5 f1
    rcases ho with rfl | ho | ⟨r,b',m',h3,h4⟩
    ·omega
    ·exact hR.R.h.nO _ _ _ _ l5 f1 ho
    ·obtain ⟨b2,h5,h6,h7⟩:=(hpl2 r b' g m' h3 h4).2 hglt
     have e:=hR.R.h.inj _ _ _ _ _ _ _ l5 h5 f1 h7
     subst e
     rw [(hl.lend q b h1).2.2.2.2.2] at h6;cases h6
   ·rcases hg with rfl | hg | ⟨r,b',m',h3,h4⟩
    ·omega
    ·have:=hR.R.h.Olt g hg;omega
    ·have:=(hpl2 r b' g m' h3 h4).1;omega
   ·refine ⟨cd,L,hrec2,rfl,rfl,hta,htb,rfl,rfl,hh2,fun _ h=>h,fun g hg=>.inr (.inl hg),.inl rfl,fun hg=>(by have h:=hR.R.h.Olt (w.heap.size+1) hg;omega),fun r b g m h1 h2=>⟨.inr (.inr ⟨r,b,m,h1,h2⟩),(by have h:=(hpl2 r b g m h1 h2).1;show g≠w.heap.size+1;omega)⟩,rfl,fun _ h=>h,HB.refl _ _ _,fun _ _=>rfl⟩
   ·obtain ⟨ha,hcl⟩:=hR.R.h.gl g row hg
    exact ⟨ha,fun j x hx=>let ⟨cv,h1,h2⟩:=hcl j x hx;⟨cv,by rw [cell_of_heap (hwA g ha)];exact h1,h2.mono (fun _ h=>h) hwA⟩⟩
  -- the one call
  have hfv2:=hfv.mono hwA (HStep.refl c (look σ.heap) (fun r=>r<σ.nx))
  obtain ⟨fs,cs,hof,l1,l2,r1,r2⟩:=ofValue_run (P:=P) hc hfv2 #[.func (.yield (w.heap.size+1)) #[] #[]]
  obtain ⟨fnb,b1,b2,b3⟩:=hasBody_ok hbd
  have hres:(resolve a.eval (rangeCall fo (w.heap.size+1)) 0).run P w2=.ok { target:=.fn (.func g) cs.toArray,args:=fs.toArray++#[.func (.yield (w.heap.size+1)) #[] #[]] } w2:=by
   rw [← hof];simp [resolve,rangeCall,Act.eval]
  have hinv:(invoke (.fn (.func g) cs.toArray) (fs.toArray++#[.func (.yield (w.heap.size+1)) #[] #[]])).run P w2=.ok (.enter g (fs.toArray++#[.func (.yield (w.heap.size+1)) #[] #[]]++cs.toArray)) w2:=callFunc_run b1 b2 b3 w2
  refine ⟨w.heap.size+1,[{ target:=.collected w.heap.size,args:=#[] }],w2,_,w2,g,_,w2,?_,hres,fun f' _=>trivial,hinv,fun h=>(by cases h),?_⟩
  ·rw [← hw2,← hw1];exact run_enterLoop_outer (w:=w) _ _ _ _ _
  refine CallsIn.mono (hS cg w2 _ ?_ (fun i x v hx hv=>?_) hhg) ?_
  ·have:=congrArg List.length hvs
   rw [rens_map,List.length_map] at this
   simp at this ⊢;omega
  ·have hv':(fs++[.func (.yield (w.heap.size+1)) #[] #[]]++cs)[i]?=some v:=by
    have:=congrArg Array.toList (show fs.toArray++#[Value.func (.yield (w.heap.size+1)) #[] #[]]++cs.toArray=(fs++[Value.func (.yield (w.heap.size+1)) #[] #[]]++cs).toArray by simp)
    rw [← Array.getElem?_toList,this] at hv;exact hv
   have hx':(first++[V.yld]++caps)[i]?=some (x.ren ρ):=by rw [hvs,rens_map,List.getElem?_map,hx];rfl
   have fin:VRel { c with y:=w.heap.size+1 } (look σ.heap) (fun r=>r<σ.nx) w2 (x.ren ρ) v→VRel cg (look H0) (fun r=>r<n0) w2 x v:=fun h=>
    ren_in (c:={ c with y:=w.heap.size+1 }) (c0:=cg) (ρ:=ρ) (H:=look σ.heap) (U:=fun r=>r<σ.nx) (fun _=>rfl) (fun _ h=>h) rfl (fun q b hq=>(hl.lend q b hq).2.2.2.2.1) (okRs_get _ i x hok hx) h
   by_cases h1:i<first.length
   ·rw [List.append_assoc,List.getElem?_append_left h1] at hx'
    rw [List.append_assoc,List.getElem?_append_left (by omega)] at hv'
    exact fin ((r1 i _ v hx' hv').atY (noYs_get _ i _ hny.1 hx') (fun _=>rfl) (fun _ h=>h))
   ·by_cases h2:i<first.length+1
    ·have hi:i=first.length:=by omega
     subst hi
     rw [List.append_assoc,List.getElem?_append_right (Nat.le_refl _)] at hx'
     rw [List.append_assoc,List.getElem?_append_right (by omega)] at hv'
     have e0:first.length - fs.length=0:=by omega
     rw [e0] at hv'
     simp at hx' hv'
     have:x=.yld:=by cases x<;>simp [V.ren] at hx'<;>rfl
     subst this;subst hv'
     exact .yld
    ·rw [List.getElem?_append_right (by simp;omega)] at hx'
     rw [List.getElem?_append_right (by simp;omega)] at hv'
     have e:i - (fs++[Value.func (.yield (w.heap.size+1)) #[] #[]]).length=i - (first++[V.yld]).length:=by simp;omega
     rw [e] at hv'
     exact fin ((r2 _ _ v hx' hv').atY (noYs_get _ _ _ hny.2 hx') (fun _=>rfl) (fun _ h=>h))
  rintro e w3 ⟨rv,c1,rfl,hv,hs3,hh3,hx3⟩
  obtain ⟨c2,L2,k⟩:=hh3.fr
  have hy1:c1.y=w.heap.size+1:=hx3.hy
  rw [hy1] at k
  have hend:=run_endLoop (P:=P) k.rc (by rw [k.st];cases pend<;>simp)
  generalize hw4:w3.putObj (w.heap.size+1) (.loop { L2 with state:=.exhausted })=w4 at hend
  rw [k.pend] at hend
  have hoth4:∀ g,g≠w.heap.size+1→w4.heap[g]?=w3.heap[g]?:=fun g hg=>by rw [← hw4];exact World.putObj_heap_other hg
  have hsz4:w4.heap.size=w3.heap.size:=by rw [← hw4];simp
  have hos4:w4.os=w3.os∧w4.tape=w3.tape∧w4.output=w3.output:=by rw [← hw4];exact ⟨rfl,rfl,rfl⟩
  have hos2:w2.os=w.os∧w2.tape=w.tape∧w2.output=w.output:=by rw [← hw2,← hw1];exact ⟨rfl,rfl,rfl⟩
  have hle3:=hx3.size
  let cN:Cx:={ fm:=c2.fm,A:=c1.A,O:=c2.O,y:=c2.y }
  have hcy:c2.y=c.y:=k.hy
  have hyA:¬ c1.A (w.heap.size+1):=fun ha=>hh3.AO _ ha k.oy
  have hO1:∀ g,c1.O g→w.heap.size≤g∨c.O g∨∃ r0 b0 m0,look σ.heap r0=some b0∧c.fm r0=some (g,m0):=fun g hg=>by
   rcases hx3.O' g hg with h | h | ⟨q,b,m,h1,h2⟩
   ·exact .inl (by omega)
   ·exact hyO g h
   ·exact .inr (.inr ⟨_,_,m,(hl.lend q b h1).2.2.2.2.1,h2⟩)
  have hsame3:∀ g,g<w.heap.size→(∀ r b m,look σ.heap r=some b→c.fm r≠some (g,m))→¬ c.O g→w4.heap[g]?=w.heap[g]?:=fun g hg hn ho=>by
   rw [hoth4 g (by omega),hx3.same g (by omega) (fun q b m h1 hf=>hn _ _ m (hl.lend q b h1).2.2.2.2.1 hf) (fun h=>?_),hwo g hg]
   rcases hyO g h with h | h | ⟨r0,b0,m0,h1,h2⟩
   ·omega
   ·exact ho h
   ·exact hn _ _ _ h1 h2
  have hsameA:∀ g,c.A g→w4.heap[g]?=w2.heap[g]?:=fun g hg=>by
   rw [hsame3 g (hR.R.h.Alt g hg) (fun r b m h1 hf=>hR.R.h.nA _ _ _ _ h1 hf hg) (hR.R.h.AO g hg),hwA g hg]
  have hhN:HRel G cN (look hN) (fun r=>r<σ.nx+1) σ.fr w4:=by
   have h1:HRel G { c2 with A:=c1.A } (look hN) (fun r=>r<σ.nx+1) σ.fr w3:=k.hr.growA k.hA (fun r b g m h1 h2 ha=>hh3.AO g ha (k.pl r b g m h1 h2).1) (fun g ha ho=>hh3.AO g ha (k.hO g ho)) hh3.Alt
   exact h1.same (fun r b g m h2 h3=>hoth4 g (k.pl r b g m h2 h3).2) (fun g hg=>hoth4 g (fun e=>hyA (e▸hg))) (fun g hg=>hoth4 g (fun e=>k.ny (e▸hg)))
  have hbN:HB (σ.nx+1) cd (look ((σ.nx,Blk.dm)::h0)) cN (look hN):=⟨k.hb.var,k.hb.row,k.hb.mp,k.hb.dm,k.hb.arr⟩
  have hstN:HStep cd (look ((σ.nx,Blk.dm)::h0)) (fun r=>r<σ.nx+1) cN (look hN) (fun r=>r<σ.nx+1):=HB.step hbN hcy (fun g hg=>hx3.A g hg) htok.lt
  have hRN:RelS G nt cN { env:=env',heap:=hN,nx:=σ.nx+1,fr:=σ.fr,dfs:=σ.nx::σ.dfs,base:=σ.base } { a with defers:=[{ target:=.collected w.heap.size,args:=#[] }]++a.defers } w4:=by
   refine ⟨⟨hR.R.nt,fun q v hq=>?_,hhN⟩,?_,Nat.le_trans hR.base (Nat.le_succ _)⟩
   ·obtain ⟨cv,h1,h2⟩:=htok.env q v hq
    exact ⟨cv,h1,h2.mono hsameA hstN⟩
   ·refine DfRel.mono hstN (l:=σ.nx::σ.dfs) ⟨w.heap.size,0,a.defers,by rw [look_cons,if_pos rfl],upd_same _ _ _,rfl,?_⟩
    exact DfRel.mono hst1 hRs.df
  have hWN:Went c σ w cN { env:=env',heap:=hN,nx:=σ.nx+1,fr:=σ.fr,dfs:=σ.nx::σ.dfs,base:=σ.base } w4:=by
   refine ⟨⟨by rw [hos4.1,hx3.os,hos2.1],by rw [hos4.2.1,hx3.tape,hos2.2.1],by rw [hos4.2.2,hx3.output,hos2.2.2],by omega,hcy,fun g hg hn ho=>hsame3 g hg hn ho,fun r b g m h1 h2=>hO1 g (k.pl r b g m h1 h2).1,fun g hg=>hx3.A g hg,fun g hg=>?_,fun g hg=>hO1 g (k.hO g hg)⟩,?_,rfl⟩
   ·rcases hx3.A' g hg with h | h | h | ⟨q,b,m,h1,h2⟩
    ·exact .inl h
    ·exact .inr (.inl (by omega))
    ·exact .inr (hyO g h)
    ·exact .inr (.inr (.inr ⟨_,_,m,(hl.lend q b h1).2.2.2.2.1,h2⟩))
   ·have hb1:HB σ.base c (look h0) cd (look ((σ.nx,Blk.dm)::h0)):=HB.of hR.base hst1
    have hb2:HB σ.base cd (look ((σ.nx,Blk.dm)::h0)) cN (look hN):=by
     have hle:∀ r,r<σ.base→r<σ.nx+1:=fun r hr=>by have:=hR.base;omega
     exact ⟨fun r T cs hr h=>hbN.var r T cs (hle r hr) h,fun r T es xs hr h=>hbN.row r T es xs (hle r hr) h,fun r es hr h=>hbN.mp r es (hle r hr) h,fun r hr h=>hbN.dm r (hle r hr) h,fun r T cs hr h=>hbN.arr r T cs (hle r hr) h⟩
    exact hWs.b.trans (hb1.trans hb2)
  refine ⟨pend,w4,hend,?_⟩
  cases pend with
  | none=>exact ⟨_,cN,hk,hRN,hWN⟩
  | some pc=>
   cases pc<;>try exact hk.elim
   case ret=>
    refine wpIn_mono (AW.ret (P:=P) (F:=Fence.wide) (Q:=Q) hk .ret .ret cN _ w4 hRN) ?_
    rintro e a' w' ⟨σ',c',h1,h2,h3⟩
    exact ⟨σ',c',h1,h2,hWN.trans h3⟩
   case exit i=>
    refine wpIn_mono (AW.exit (P:=P) (F:=Fence.wide) (Q:=Q) hk (.exit i) .exit cN _ w4 hRN) ?_
    rintro e a' w' ⟨σ',c',h1,h2,h3⟩
    exact ⟨σ',c',h1,h2,hWN.trans h3⟩
end
end Go.Abs
namespace Go.Abs
section
variable {P:Program} {G:Gl} {nt:Nat} {F:Fence} {K:St→List SD→Prop} {rest:List IOper} {σ:St} {sds:List SD} {g:Option (Nat×Bool)} {aft:List Nat}
theorem RunC.nw1 {t:Nat} {io:IOp} {xs:List (Opd×V)} {rs:List (Nat×Blk)} {v:V} {b:Blk} (h:LStp P G nt io xs rs v ⟨[(σ.nx,b)],[σ.nx]⟩ σ.fr σ.fr) (hg:Wants σ g) (hE:Evs G (look σ.env) xs) (hH:Rds (look σ.heap) rs)
  (k:RunC P G nt K rest (σ.nw t v b) (sds++[sdOf g xs rs ⟨[(σ.nx,b)],[σ.nx]⟩])):RunC P G nt K (⟨some t,g,io,aft⟩::rest) σ sds:=.step h hg hE hH rfl k
theorem RunC.tn1 {t:Nat} {io:IOp} {xs:List (Opd×V)} {rs:List (Nat×Blk)} {v:V} {r:Nat} {b:Blk} (h:LStp P G nt io xs rs v ⟨[(r,b)],[]⟩ σ.fr σ.fr) (hg:Wants σ g) (hE:Evs G (look σ.env) xs) (hH:Rds (look σ.heap) rs)
  (k:RunC P G nt K rest ((σ.tn r b).put (some t) v) (sds++[sdOf g xs rs ⟨[(r,b)],[]⟩])):RunC P G nt K (⟨some t,g,io,aft⟩::rest) σ sds:=.step h hg hE hH rfl k
theorem RunC.tn0 {io:IOp} {xs:List (Opd×V)} {rs:List (Nat×Blk)} {v:V} {r:Nat} {b:Blk} (h:LStp P G nt io xs rs v ⟨[(r,b)],[]⟩ σ.fr σ.fr) (hg:Wants σ g) (hE:Evs G (look σ.env) xs) (hH:Rds (look σ.heap) rs)
  (k:RunC P G nt K rest (σ.tn r b) (sds++[sdOf g xs rs ⟨[(r,b)],[]⟩])):RunC P G nt K (⟨none,g,io,aft⟩::rest) σ sds:=.step h hg hE hH rfl k
theorem Evs.appd {E:En}:∀ {l m:List (Opd×V)},Evs G E l→Evs G E m→Evs G E (l++m)
 | [],m,_,h=>h
 | p::l,m,h1,h=>⟨h1.1,Evs.appd h1.2 h⟩
theorem r_appD {t T es bytes:Nat} {s x:Opd} {r n:Nat} {xs ys:List (List D)} {xv:V} (hg:Wants σ g) (hs:ev G (look σ.env) s=some (.own r n)) (hx:ev G (look σ.env) x=some xv) (hr:look σ.heap r=some (.row T es xs)) (hn:xs.length=n) (hsrc:Src [(r,.row T es xs)] es xv ys) (hb:(xs.length+ys.length)*bytes≤140737488355328)
  (k:RunC P G nt K rest ((σ.tn r (.row T es (xs++ys))).put (some t) (.own r (xs.length+ys.length))) (sds++[sdOf g [(s,.own r n),(x,xv)] [(r,.row T es xs)] ⟨[(r,.row T es (xs++ys))],[]⟩])):RunC P G nt K (⟨some t,g,.app T es bytes s x,aft⟩::rest) σ sds:=by
 subst hn
 exact .tn1 (s_app hsrc (by simp) hb) hg ⟨hs,hx,trivial⟩ ⟨hr,trivial⟩ k
theorem r_appO {t T T' es bytes:Nat} {s x:Opd} {r n q m:Nat} {xs ys:List (List D)} (hg:Wants σ g) (hs:ev G (look σ.env) s=some (.own r n)) (hx:ev G (look σ.env) x=some (.own q m)) (hr:look σ.heap r=some (.row T es xs)) (hq:look σ.heap q=some (.row T' es ys)) (hn:xs.length=n) (hm:ys.length=m) (hb:(xs.length+ys.length)*bytes≤140737488355328)
  (k:RunC P G nt K rest ((σ.tn r (.row T es (xs++ys))).put (some t) (.own r (xs.length+ys.length))) (sds++[sdOf g [(s,.own r n),(x,.own q m)] [(r,.row T es xs),(q,.row T' es ys)] ⟨[(r,.row T es (xs++ys))],[]⟩])):RunC P G nt K (⟨some t,g,.app T es bytes s x,aft⟩::rest) σ sds:=by
 subst hn;subst hm
 exact .tn1 (s_app (rs:=[(r,.row T es xs),(q,.row T' es ys)]) (.own q T' ys (by simp)) (by simp) hb) hg ⟨hs,hx,trivial⟩ ⟨hr,hq,trivial⟩ k
theorem r_appF {t T T' es bytes:Nat} {s x:Opd} {q m:Nat} {xs ys:List (List D)} (hg:Wants σ g) (hs:ev G (look σ.env) s=some (.fsl es xs)) (hx:ev G (look σ.env) x=some (.own q m)) (hq:look σ.heap q=some (.row T' es ys)) (hm:ys.length=m) (hy:ys≠[]) (hb:(xs.length+ys.length)*bytes≤140737488355328)
  (k:RunC P G nt K rest (σ.nw t (.own σ.nx (xs.length+ys.length)) (.row T es (xs++ys))) (sds++[sdOf g [(s,.fsl es xs),(x,.own q m)] [(q,.row T' es ys)] ⟨[(σ.nx,.row T es (xs++ys))],[σ.nx]⟩])):RunC P G nt K (⟨some t,g,.app T es bytes s x,aft⟩::rest) σ sds:=by
 subst hm
 exact .nw1 (s_appF (rs:=[(q,.row T' es ys)]) (.own q T' ys (by simp)) hy hb) hg ⟨hs,hx,trivial⟩ ⟨hq,trivial⟩ k
theorem r_iaD {d:Option Nat} {es:Nat} {x i:Opd} {k0:IntKind} {iz:Int} {xs:List (List D)} {row:List D} (hg:Wants σ g) (hx:ev G (look σ.env) x=some (.d (.sl es xs))) (hi0:ev G (look σ.env) i=some (.d (.int k0 iz))) (h0:0≤iz) (hi:xs[iz.toNat]?=some row)
  (k:RunC P G nt K rest (σ.put d (.fp row 0)) (sds++[sdOf g [(x,.d (.sl es xs)),(i,.d (.int k0 iz))] [] ⟨[],[]⟩])):RunC P G nt K (⟨d,g,.iaS es x i,aft⟩::rest) σ sds:=
 .val (s_iaD h0 hi) hg ⟨hx,hi0,trivial⟩ trivial k
theorem r_iaV {d:Option Nat} {n es:Nat} {x i:Opd} {r off:Nat} {k0:IntKind} {iz:Int} {T:Nat} {cs:List V} (hg:Wants σ g) (hx:ev G (look σ.env) x=some (.ptr r off)) (hi0:ev G (look σ.env) i=some (.d (.int k0 iz))) (hr:look σ.heap r=some (.var T cs)) (h0:0≤iz) (hi:iz.toNat<n)
  (k:RunC P G nt K rest (σ.put d (.ptr r (off+iz.toNat*es))) (sds++[sdOf g [(x,.ptr r off),(i,.d (.int k0 iz))] [(r,.var T cs)] ⟨[],[]⟩])):RunC P G nt K (⟨d,g,.iaA n es x i,aft⟩::rest) σ sds:=
 .val (s_iaV h0 hi) hg ⟨hx,hi0,trivial⟩ ⟨hr,trivial⟩ k
theorem r_iaF {d:Option Nat} {n es:Nat} {x i:Opd} {row:List D} {off:Nat} {k0:IntKind} {iz:Int} (hg:Wants σ g) (hx:ev G (look σ.env) x=some (.fp row off)) (hi0:ev G (look σ.env) i=some (.d (.int k0 iz))) (h0:0≤iz) (hi:iz.toNat<n)
  (k:RunC P G nt K rest (σ.put d (.fp row (off+iz.toNat*es))) (sds++[sdOf g [(x,.fp row off),(i,.d (.int k0 iz))] [] ⟨[],[]⟩])):RunC P G nt K (⟨d,g,.iaA n es x i,aft⟩::rest) σ sds:=
 .val (s_iaF h0 hi) hg ⟨hx,hi0,trivial⟩ trivial k
theorem r_aeq {d:Option Nat} {neg:Bool} {t:Nat} {x y:Opd} {vx vy:List V} {xs ys:List D} {ks:List Nat} {r:Bool} (hg:Wants σ g) (hx:ev G (look σ.env) x=some (.agg vx)) (hy:ev G (look σ.env) y=some (.agg vy)) (hux:unV vx=some xs) (huy:unV vy=some ys) (hf:FlatT P t ks) (hlx:Nat.beq xs.length ks.length=true) (hly:Nat.beq ys.length ks.length=true) (he:eqDs ks xs ys=some r)
  (k:RunC P G nt K rest (σ.put d (.d (.bool (neg != r)))) (sds++[sdOf g [(x,.agg (xs.map .d)),(y,.agg (ys.map .d))] [] ⟨[],[]⟩])):RunC P G nt K (⟨d,g,.aeq neg t x y,aft⟩::rest) σ sds:=by
 have e1:=unV_eq hux;have e2:=unV_eq huy
 subst e1;subst e2
 exact .val (s_aeq hf (Nat.eq_of_beq_eq_true hlx) (Nat.eq_of_beq_eq_true hly) he) hg ⟨hx,hy,trivial⟩ trivial k
theorem r_sh {d:Option Nat} {op:BinOp} {x y:Opd} {k0 ky:IntKind} {p q r:Int} (hg:Wants σ g) (hx:ev G (look σ.env) x=some (.d (.int k0 p))) (hy:ev G (look σ.env) y=some (.d (.int ky q))) (hr:shR op k0 p q=some r)
  (k:RunC P G nt K rest (σ.put d (.d (.int k0 r))) (sds++[sdOf g [(x,.d (.int k0 p)),(y,.d (.int ky q))] [] ⟨[],[]⟩])):RunC P G nt K (⟨d,g,.bin op x y,aft⟩::rest) σ sds:=
 .val (s_sh hr) hg ⟨hx,hy,trivial⟩ trivial k
theorem r_lookup {d:Option Nat} {kt:Nat} {ok ag:Bool} {z:List D} {x k0:Opd} {r:Nat} {es:List (DV×DV)} {vk:List V} {key:List D} {ks:List Nat} {res:Option (Nat×DV)} (hg:Wants σ g) (hx:ev G (look σ.env) x=some (.map r)) (hk0:ev G (look σ.env) k0=some (.agg vk)) (huk:unV vk=some key) (hr:look σ.heap r=some (.mp es)) (hf:FlatT P kt ks) (hk:key.length=ks.length)
  (hes:∀ (i:Nat) xs v,es[i]?=some (.a xs,v)→xs.length=ks.length) (hl:lookD ks es key 0=some res) (hz:dvV ag z≠.undef)
  (k:RunC P G nt K rest (σ.put d (okV ok (lookV z ag res) res.isSome)) (sds++[sdOf g [(x,.map r),(k0,.agg (key.map .d))] [(r,.mp es)] ⟨[],[]⟩])):RunC P G nt K (⟨d,g,.lookup kt ok z ag x k0,aft⟩::rest) σ sds:=by
 have e:=unV_eq huk
 subst e
 exact .val (s_lookup hf hk hes hl hz) hg ⟨hx,hk0,trivial⟩ ⟨hr,trivial⟩ k
theorem r_lookupF {d:Option Nat} {kt:Nat} {ok ag:Bool} {z:List D} {x k0:Opd} {es:List (DV×DV)} {vk:List V} {key:List D} {ks:List Nat} {res:Option (Nat×DV)} (hg:Wants σ g) (hx:ev G (look σ.env) x=some (.fmp es)) (hk0:ev G (look σ.env) k0=some (.agg vk)) (huk:unV vk=some key) (hf:FlatT P kt ks) (hk:key.length=ks.length)
  (hes:∀ (i:Nat) xs v,es[i]?=some (.a xs,v)→xs.length=ks.length) (hl:lookD ks es key 0=some res) (hz:dvV ag z≠.undef)
  (k:RunC P G nt K rest (σ.put d (okV ok (lookV z ag res) res.isSome)) (sds++[sdOf g [(x,.fmp es),(k0,.agg (key.map .d))] [] ⟨[],[]⟩])):RunC P G nt K (⟨d,g,.lookup kt ok z ag x k0,aft⟩::rest) σ sds:=by
 have e:=unV_eq huk
 subst e
 exact .val (s_lookupF hf hk hes hl hz) hg ⟨hx,hk0,trivial⟩ trivial k
theorem r_mapup {kt:Nat} {m k0 x:Opd} {r:Nat} {es:List (DV×DV)} {vk:List V} {key:List D} {v:V} {dv:DV} {ks:List Nat} (hg:Wants σ g) (hm:ev G (look σ.env) m=some (.map r)) (hk0:ev G (look σ.env) k0=some (.agg vk)) (huk:unV vk=some key) (hx:ev G (look σ.env) x=some v) (hr:look σ.heap r=some (.mp es)) (hf:FlatT P kt ks) (hk:key.length=ks.length)
  (hes:∀ (i:Nat) xs v,es[i]?=some (.a xs,v)→xs.length=ks.length) (hl:lookD ks es key 0=some none) (hv:dvOf v=some dv)
  (k:RunC P G nt K rest (σ.tn r (.mp (es++[(.a key,dv)]))) (sds++[sdOf g [(m,.map r),(k0,.agg (key.map .d)),(x,v)] [(r,.mp es)] ⟨[(r,.mp (es++[(.a key,dv)]))],[]⟩])):RunC P G nt K (⟨none,g,.mapup kt m k0 x,aft⟩::rest) σ sds:=by
 have e:=unV_eq huk
 subst e
 exact .tn0 (s_mapup hf hk hes hl hv) hg ⟨hm,hk0,hx,trivial⟩ ⟨hr,trivial⟩ k
theorem r_callF {d:Option Nat} {f:Nat} {args:List Opd} {vs vs':List V} {rs:List (Nat×Blk)} {r:V} (hg:Wants σ g) (hx:evs G (look σ.env) args=some vs) (h:PCall P G f vs' r) (hrd:Rds (look σ.heap) rs) (hz:FrzL (look rs) vs vs') (hl:Nat.beq args.length vs.length=true) (hok:V.okR.okRs 0 (fun _=>false) vs'=true) (hns:r.noSl=true)
  (k:RunC P G nt K rest (σ.put d r) (sds++[sdOf g (args.zip vs) rs ⟨[],[]⟩])):RunC P G nt K (⟨d,g,.call f args,aft⟩::rest) σ sds:=
 .val (s_callF h hz (fun q b hq=>look_mem hq) (Nat.eq_of_beq_eq_true hl) hok hns) hg (Evs.zip hx) hrd k
def St.cl (σ:St) (d:Option Nat) (v:V) (st:List (Nat×Blk)) (n:Nat) (fr:Fr):St:=(⟨σ.env,st++σ.heap,σ.nx+n,fr,σ.dfs,σ.base⟩:St).put d v
theorem RunC.cl {d:Option Nat} {io:IOp} {xs:List (Opd×V)} {rs:List (Nat×Blk)} {v:V} {st:List (Nat×Blk)} {n:Nat} (h:LStp P G nt io xs rs v ⟨st,List.range' σ.nx n⟩ σ.fr σ.fr) (hg:Wants σ g) (hE:Evs G (look σ.env) xs) (hH:Rds (look σ.heap) rs)
  (k:RunC P G nt K rest (σ.cl d v st n σ.fr) (sds++[sdOf g xs rs ⟨st,List.range' σ.nx n⟩])):RunC P G nt K (⟨d,g,io,aft⟩::rest) σ sds:=by
 refine .step h hg hE hH (by simp) ?_
 cases d<;>simpa [St.app,St.cl,St.put] using k
theorem RunC.clF {d:Option Nat} {io:IOp} {xs:List (Opd×V)} {rs:List (Nat×Blk)} {v:V} {st:List (Nat×Blk)} {n:Nat} {fr:Fr} (h:LStp P G nt io xs rs v ⟨st,List.range' σ.nx n⟩ σ.fr fr) (hg:Wants σ g) (hE:Evs G (look σ.env) xs) (hH:Rds (look σ.heap) rs)
  (k:RunC P G nt K rest (σ.cl d v st n fr) (sds++[sdF g xs rs ⟨st,List.range' σ.nx n⟩])):RunC P G nt K (⟨d,g,io,aft⟩::rest) σ sds:=by
 refine .stepF h hg hE hH (by simp) ?_
 cases d<;>simpa [St.app,St.cl,St.put] using k
theorem r_callZ {d:Option Nat} {f:Nat} {args:List Opd} {vs vs':List V} {zr:List (Nat×Blk)} {r:V} (hg:Wants σ g) (hx:evs G (look σ.env) args=some vs) (h:PCall P G f vs' r) (hrd:Rds (look σ.heap) zr) (hz:FrzL (look zr) vs vs') (hzr:allL (fun p=>isRow p.2) zr=true) (hl:Nat.beq args.length vs.length=true) (hok:V.okR.okRs 0 (fun _=>false) vs'=true) (hr:r.okR 0 (fun _=>false)=true)
  (k:RunC P G nt K rest (σ.cl d r (deadL (keysL zr)) 0 σ.fr) (sds++[sdOf g (args.zip vs) zr ⟨deadL (keysL zr),List.range' σ.nx 0⟩])):RunC P G nt K (⟨d,g,.call f args,aft⟩::rest) σ sds:=
 .cl (n:=0) (s_callZ h hz hzr (Nat.eq_of_beq_eq_true hl) hok hr) hg (Evs.zip hx) hrd k
theorem r_callvZ {d:Option Nat} {f:Nat} {x:Opd} {u:V} {first caps:List V} {args:List Opd} {vs vs':List V} {zr:List (Nat×Blk)} {r:V} (hg:Wants σ g) (hxv:ev G (look σ.env) x=some u) (hc:Callee u f first caps) (hbd:hasBody P f=true) (hx:evs G (look σ.env) args=some vs) (h:PCall P G f vs' r) (hrd:Rds (look σ.heap) zr) (hz:FrzL (look zr) (first++vs++caps) vs') (hzr:allL (fun p=>isRow p.2) zr=true)
  (hl:Nat.beq args.length vs.length=true) (hok:V.okR.okRs 0 (fun _=>false) vs'=true) (hr:r.okR 0 (fun _=>false)=true)
  (k:RunC P G nt K rest (σ.cl d r (deadL (keysL zr)) 0 σ.fr) (sds++[sdOf g ((x,u)::args.zip vs) zr ⟨deadL (keysL zr),List.range' σ.nx 0⟩])):RunC P G nt K (⟨d,g,.callv x args,aft⟩::rest) σ sds:=
 .cl (n:=0) (s_callvZ hc hbd h hz hzr (Nat.eq_of_beq_eq_true hl) hok hr) hg ⟨hxv,Evs.zip hx⟩ hrd k
theorem r_callS {d:Option Nat} {f:Nat} {args:List Opd} {vs vs0:List V} {H0 H1 zr:List (Nat×Blk)} {n0 n1:Nat} {r0:V} (ns:List Nat) (hg:Wants σ g) (hx:evs G (look σ.env) args=some vs) (h:SCall P G f vs0 H0 n0 Fr.emp r0 H1 n1 Fr.emp) (hrd:Rds (look σ.heap) (renL (rnm ns σ.nx) H0++zr)) (hl:lendB (rnm ns σ.nx) H0 n0 H1 (keysL zr) (List.range' σ.nx (n1 - n0))=true)
  (hzr:allL (fun p=>isRow p.2) zr=true) (hz:FrzL (look zr) vs (V.ren.rens (rnm ns σ.nx) vs0)) (hok:V.okR.okRs n0 (fun q=>(look H0 q).isSome) vs0=true) (hno:r0.ownIn (fun q=>(look H1 q).isSome)=true) (hal:Nat.beq args.length vs.length=true)
  (k:RunC P G nt K rest (σ.cl d (r0.ren (rnm ns σ.nx)) (renL (rnm ns σ.nx) H1++deadL (keysL zr)) (n1 - n0) σ.fr) (sds++[sdOf g (args.zip vs) (renL (rnm ns σ.nx) H0++zr) ⟨renL (rnm ns σ.nx) H1++deadL (keysL zr),List.range' σ.nx (n1 - n0)⟩])):RunC P G nt K (⟨d,g,.call f args,aft⟩::rest) σ sds:=
 .cl (n:=n1 - n0) (s_callS (h.frame σ.fr) (rnm ns σ.nx) zr (Lend.of hl) hzr hz hok hno (Nat.eq_of_beq_eq_true hal)) hg (Evs.zip hx) hrd k
theorem r_callvS {d:Option Nat} {f:Nat} {x:Opd} {u:V} {first caps:List V} {args:List Opd} {vs vs0:List V} {H0 H1 zr:List (Nat×Blk)} {n0 n1:Nat} {r0:V} {fr':Fr} (ns:List Nat) (hg:Wants σ g) (hxv:ev G (look σ.env) x=some u) (hc:Callee u f first caps) (hbd:hasBody P f=true) (hx:evs G (look σ.env) args=some vs) (h:SCall P G f vs0 H0 n0 σ.fr r0 H1 n1 fr') (hrd:Rds (look σ.heap) (renL (rnm ns σ.nx) H0++zr))
  (hl:lendB (rnm ns σ.nx) H0 n0 H1 (keysL zr) (List.range' σ.nx (n1 - n0))=true) (hzr:allL (fun p=>isRow p.2) zr=true) (hz:FrzL (look zr) (first++vs++caps) (V.ren.rens (rnm ns σ.nx) vs0)) (hok:V.okR.okRs n0 (fun q=>(look H0 q).isSome) vs0=true) (hno:r0.ownIn (fun q=>(look H1 q).isSome)=true) (hal:Nat.beq args.length vs.length=true)
  (k:RunC P G nt K rest (σ.cl d (r0.ren (rnm ns σ.nx)) (renL (rnm ns σ.nx) H1++deadL (keysL zr)) (n1 - n0) fr') (sds++[sdF g ((x,u)::args.zip vs) (renL (rnm ns σ.nx) H0++zr) ⟨renL (rnm ns σ.nx) H1++deadL (keysL zr),List.range' σ.nx (n1 - n0)⟩])):RunC P G nt K (⟨d,g,.callv x args,aft⟩::rest) σ sds:=
 .clF (n:=n1 - n0) (s_callvS hc hbd h (rnm ns σ.nx) zr (Lend.of hl) hzr hz hok hno (Nat.eq_of_beq_eq_true hal)) hg ⟨hxv,Evs.zip hx⟩ hrd k
theorem r_callvE {d:Option Nat} {f:Nat} {x:Opd} {u:V} {first caps:List V} {args:List Opd} {vs vs0:List V} {H0 H1 zr:List (Nat×Blk)} {n0 n1:Nat} {r0:V} (ns:List Nat) (hg:Wants σ g) (hxv:ev G (look σ.env) x=some u) (hc:Callee u f first caps) (hbd:hasBody P f=true) (hx:evs G (look σ.env) args=some vs) (h:SCall P G f vs0 H0 n0 Fr.emp r0 H1 n1 Fr.emp) (hrd:Rds (look σ.heap) (renL (rnm ns σ.nx) H0++zr))
  (hl:lendB (rnm ns σ.nx) H0 n0 H1 (keysL zr) (List.range' σ.nx (n1 - n0))=true) (hzr:allL (fun p=>isRow p.2) zr=true) (hz:FrzL (look zr) (first++vs++caps) (V.ren.rens (rnm ns σ.nx) vs0)) (hok:V.okR.okRs n0 (fun q=>(look H0 q).isSome) vs0=true) (hno:r0.ownIn (fun q=>(look H1 q).isSome)=true) (hal:Nat.beq args.length vs.length=true)
  (k:RunC P G nt K rest (σ.cl d (r0.ren (rnm ns σ.nx)) (renL (rnm ns σ.nx) H1++deadL (keysL zr)) (n1 - n0) σ.fr) (sds++[sdOf g ((x,u)::args.zip vs) (renL (rnm ns σ.nx) H0++zr) ⟨renL (rnm ns σ.nx) H1++deadL (keysL zr),List.range' σ.nx (n1 - n0)⟩])):RunC P G nt K (⟨d,g,.callv x args,aft⟩::rest) σ sds:=
 .cl (n:=n1 - n0) (s_callvS hc hbd (h.frame σ.fr) (rnm ns σ.nx) zr (Lend.of hl) hzr hz hok hno (Nat.eq_of_beq_eq_true hal)) hg ⟨hxv,Evs.zip hx⟩ hrd k
theorem r_yield {d:Option Nat} {x:Opd} {args:List Opd} {vs vs':List V} {zr:List (Nat×Blk)} {r:V} {fr':Fr} (hg:Wants σ g) (hxv:ev G (look σ.env) x=some .yld) (hx:evs G (look σ.env) args=some vs) (h:YCall P G σ.fr vs' r fr') (hrd:Rds (look σ.heap) zr) (hz:FrzL (look zr) vs vs') (hzr:allL (fun p=>isRow p.2) zr=true) (hl:Nat.beq args.length vs.length=true) (hok:V.okR.okRs 0 (fun _=>false) vs'=true) (hr:r.okR 0 (fun _=>false)=true)
  (k:RunC P G nt K rest (σ.cl d r (deadL (keysL zr)) 0 fr') (sds++[sdF g ((x,.yld)::args.zip vs) zr ⟨deadL (keysL zr),List.range' σ.nx 0⟩])):RunC P G nt K (⟨d,g,.callv x args,aft⟩::rest) σ sds:=
 .clF (n:=0) (s_yield h hz hzr (Nat.eq_of_beq_eq_true hl) hok hr) hg ⟨hxv,Evs.zip hx⟩ hrd k
end
end Go.Abs
namespace Go.Abs
section
variable {P:Program} {G:Gl} {nt:Nat} {F:Fence}
theorem run_textL (hF:FOk F) {ops:Array Oper} {K:St→List SD→Prop} {c0:Cx} {σ0:St} {w0:World} {Q:Exit→Act→World→Prop} {tl:List Nat}
  (hQ:∀ σ sds c a w,K σ sds→RelS G nt c σ a w→Went c0 σ0 w0 c σ w→wpOpsIn F 0 P ops Q tl a w) :
  ∀ {rest:List IOper} {σ:St} {sds:List SD},RunC P G nt K rest σ sds→∀ (i:Nat) (c:Cx) (a:Act) (w:World),i+rest.length≤ops.size→(∀ (j:Nat) (o:Oper) (io:IOper),ops[i+j]?=some o→rest[j]?=some io→TrOper P nt ops o io) →
   RelS G nt c σ a w→Went c0 σ0 w0 c σ w→wpOpsIn F 0 P ops Q (List.range' i rest.length++tl) a w:=by
 intro rest σ sds h
 induction h with
 | nil h=>intro i c a w _ _ hR hx;exact hQ _ _ _ _ _ h hR hx
 | @step σ sds o rest xs rs v e h hg hE hH hn k ih=>
  intro i c a w hl ht hR hx
  have hlt:i<ops.size:=by simp at hl;omega
  have hto:=ht 0 (ops[i]) o (by simp [hlt]) (by simp)
  rw [List.length_cons,List.range'_succ,List.cons_append,wpOpsIn,Array.getElem?_eq_getElem hlt]
  simp only [wanted_of hR hto hg,if_true]
  refine h _ _ _ _ F c a w _ Q hto.op hF hR.R hE hH (fresh_range hn) fun c' cv w' hs hR' hv hx'=>?_
  rw [hto.dst]
  refine ih (i+1) c' _ w' (by simp at hl;omega) (fun j o io ho hio=>ht (j+1) o io (by rw [← ho];congr 1;omega) (by simpa using hio)) (hR.app hto.lt hn hs hR' hv) ?_
  have hh:look (σ.app o.dst v e σ.fr).heap=hpOf e.st (look σ.heap):=by cases o.dst<;>simp [St.app,look_app]
  exact hx.trans ⟨by rw [hh];exact hx',by rw [hh];exact HB.of hR.base hs,by cases o.dst<;>rfl⟩
 | @stepF σ sds o rest xs rs v e fr h hg hE hH hn k ih=>
  intro i c a w hl ht hR hx
  have hlt:i<ops.size:=by simp at hl;omega
  have hto:=ht 0 (ops[i]) o (by simp [hlt]) (by simp)
  rw [List.length_cons,List.range'_succ,List.cons_append,wpOpsIn,Array.getElem?_eq_getElem hlt]
  simp only [wanted_of hR hto hg,if_true]
  refine h _ _ _ _ F c a w _ Q hto.op hF hR.R hE hH (fresh_range hn) fun c' cv w' hs hR' hv hx'=>?_
  rw [hto.dst]
  refine ih (i+1) c' _ w' (by simp at hl;omega) (fun j o io ho hio=>ht (j+1) o io (by rw [← ho];congr 1;omega) (by simpa using hio)) (hR.app hto.lt hn hs hR' hv) ?_
  have hh:look (σ.app o.dst v e fr).heap=hpOf e.st (look σ.heap):=by cases o.dst<;>simp [St.app,look_app]
  exact hx.trans ⟨by rw [hh];exact hx',by rw [hh];exact HB.of hR.base hs,by cases o.dst<;>rfl⟩
 | @skip σ sds o rest hg k ih=>
  intro i c a w hl ht hR hx
  have hlt:i<ops.size:=by simp at hl;omega
  have hto:=ht 0 (ops[i]) o (by simp [hlt]) (by simp)
  rw [List.length_cons,List.range'_succ,List.cons_append,wpOpsIn,Array.getElem?_eq_getElem hlt]
  simp only [unwanted_of hR hto hg]
  refine ⟨fun f _=>hF.fn f,?_⟩
  rw [hto.dst]
  refine ih (i+1) c _ w (by simp at hl;omega) (fun j o io ho hio=>ht (j+1) o io (by rw [← ho];congr 1;omega) (by simpa using hio)) (hR.put hto.lt .undef) ?_
  exact hx.trans (by cases o.dst<;>exact ⟨Ext.refl _ _ _,HB.refl _ _ _,rfl⟩)
 | know h k ih=>
  intro i c a w hl ht hR hx
  exact ih i c a w hl ht (hR.know h) (hx.trans ⟨Ext.refl _ _ _,HB.refl _ _ _,rfl⟩)
def RW (P:Program) (G:Gl) (nt:Nat) (F:Fence) (rest:List IOper) (Q:Post) (σ:St):Prop:=
 ∀ (ops:Array Oper) (i:Nat),i+rest.length=ops.size→(∀ (j:Nat) (o:Oper) (io:IOper),ops[i+j]?=some o→rest[j]?=some io→TrOper P nt ops o io) →
  ∀ (c0:Cx) (σ0:St) (w0:World) (c:Cx) (a:Act) (w:World),RelS G nt c σ a w→Went c0 σ0 w0 c σ w→wpOpsIn F 0 P ops (Holds G nt c0 σ0 w0 Q) (List.range' i rest.length) a w
theorem AW.regW {ops:List IOper} {Q:Post} {σ:St} (h:RW P G nt F ops Q σ):AW P G nt F (.reg false ops) Q σ:=by
 intro code ht c a w hR
 cases ht with
 | @reg id cops _ hl ht=>
  refine wpIn_region ?_
  rw [List.range_eq_range',hl]
  exact h cops 0 (by omega) (fun j o io ho hio=>ht j o io (by simpa using ho) hio) c σ w c a w hR (Went.refl _ _ _)
theorem RW.run (hF:FOk F) (n:Nat) {ops:List IOper} {Q:Post} {σ:St} (h:RunC P G nt (fun σ' _=>RW P G nt F (ops.drop n) Q σ') (ops.take n) σ []):RW P G nt F ops Q σ:=by
 intro cops i hl ht c0 σ0 w0 c a w hR hW
 have hlen:ops.length=(ops.take n).length+(ops.drop n).length:=by rw [← List.length_append,List.take_append_drop]
 have hrange:List.range' i ops.length=List.range' i (ops.take n).length++List.range' (i+(ops.take n).length) (ops.drop n).length:=by
  rw [hlen,List.range'_append_1]
 rw [hrange]
 refine run_textL hF (fun σ' sds c' a' w' hk' hR' hx=>?_) h i c a w (by omega) (fun j o io ho hio=>ht j o io ho ?_) hR hW
 ·refine hk' cops (i+(ops.take n).length) (by omega) (fun j o io ho hio=>ht ((ops.take n).length+j) o io (by rw [← ho];congr 1;omega) ?_) c0 σ0 w0 c' a' w' hR' hx
  have:ops[(ops.take n).length+j]?=(ops.take n++ops.drop n)[(ops.take n).length+j]?:=by rw [List.take_append_drop]
  rw [this,List.getElem?_append_right (by omega)]
  rw [← hio];congr 1;omega
 ·have hj:=(List.getElem?_eq_some_iff.1 hio).1
  have:ops[j]?=(ops.take n++ops.drop n)[j]?:=by rw [List.take_append_drop]
  rw [this,List.getElem?_append_left hj];exact hio
theorem RW.nil {Q:Post} {σ:St} (h:Q .normal σ):RW P G nt F [] Q σ:=by
 intro cops i hl ht c0 σ0 w0 c a w hR hW
 exact ⟨σ,c,h,hR,hW⟩
theorem RW.sub (hF:FOk F) {ops:List IOper} {Q:Post} {σ σ':St} (hs:σ'.Sub σ) (h:RW P G nt F ops Q σ'):RW P G nt F ops Q σ:=by
 intro cops i hl ht c0 σ0 w0 c a w hR hW
 obtain ⟨hR',hx⟩:=hR.sub hs
 exact h cops i hl ht c0 σ0 w0 c a w hR' (hW.trans hx)
end
end Go.Abs
