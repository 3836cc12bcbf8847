/- The framework: what a piece of code does to told states, part 6. Conditions: none. -/
import Derived.Test.YtgdkhppmlfmacaaDoorFwe
import Derived.CallsIn
import Derived.OrdersIn
import Derived.Below
import Derived.Laws.World
import Derived.Laws.Cells
import Derived.Laws.Entries
import Derived.Laws.CopyRow
import Derived.IntWalk
import Derived.RangeFuncRecord
import Derived.RangeFuncLeaves
import Derived.KernelRfl
import Derived.Maps.AppendAt
import Derived.Laws.MakeOwn
import Derived.Laws.StructEq
import Derived.ChangeKeysEq
import Derived.MapKept
import Derived.ProofKit
import Derived.OpenShut
import Derived.LaidMore
import Derived.Lib.SliceRun
set_option linter.unusedVariables false
set_option linter.unusedSimpArgs false
namespace Go.Abs
def catV (a b:List V):List V:=a++b
section
variable {P:Program} {nt:Nat} {G:Gl} {F:Fence}
theorem AW.seqK {x y:ICode} {Q:Post} {σ:St} (h:∀ K:St→Prop,(∀ σ1,AW P G nt F y Q σ1→K σ1)→AW P G nt F x (thenQ K Q) σ):AW P G nt F (.seq x y) Q σ:=AW.seq (h _ fun _ h=>h)
theorem AW.jnK {J R:Type} (st:J→St) {c:Ctl J R} {x y:ICode} {Q:Post} {σ:St} (h:∀ K:St→Prop,(∀ j σ',c=.next j→Can G nt σ' (st j)→K σ')→AW P G nt F x (thenQ K Q) σ) (k:∀ j,c=.next j→AW P G nt F y Q (st j)):AW P G nt F (.seq x y) Q σ:=
 AW.jn st (h _ fun j _ h1 h2=>⟨j,h1,h2⟩) k
theorem AW.jnSK {J:Type} (st:J→St) {c:J} {x y:ICode} {Q:Post} {σ:St} (h:∀ K:St→Prop,(∀ σ',Can G nt σ' (st c)→K σ')→AW P G nt F x (thenQ K Q) σ) (k:AW P G nt F y Q (st c)):AW P G nt F (.seq x y) Q σ:=
 AW.jnS st (h _ fun _ h=>h) k
theorem AW.jqK {J R:Type} (st:J→St) {c:Ctl J R} {x:ICode} {Q:Post} {σ:St} (h:∀ K:St→Prop,(∀ j σ',c=.next j→Can G nt σ' (st j)→K σ')→AW P G nt F x (thenQ K Q) σ) (k:∀ j,c=.next j→Q .normal (st j)):AW P G nt F x Q σ:=
 AW.jq st (h _ fun j _ h1 h2=>⟨j,h1,h2⟩) k
theorem AW.jqSK {J:Type} (st:J→St) {c:J} {x:ICode} {Q:Post} {σ:St} (h:∀ K:St→Prop,(∀ σ',Can G nt σ' (st c)→K σ')→AW P G nt F x (thenQ K Q) σ) (k:Q .normal (st c)):AW P G nt F x Q σ:=
 AW.jqS st (h _ fun _ h=>h) k
theorem AW.evCK {α S R:Type} (st:Int→S→St) (f:Int→α→S→Option (Ctl S R)) {xs:List α} {s0:S} {out:Ctl S R} {x:ICode} {Q:Post} {σ:St} (h:eachC f xs 0 s0=some out) (hs:Can G nt σ (st 0 s0))
  (body:∀ (i:Int) p s,0≤i→i<xs.length→xs[i.toNat]?=some p→∀ c,f i p s=some c→(∀ r,c=.brk r→out=.brk r)→∀ K:St→Prop,(∀ s' σ',c=.next s'→Can G nt σ' (st (i+1) s')→K σ')→AW P G nt F x (thenQ K Q) (st i s))
  (done:∀ (i:Int) s,0≤i→(xs.length:Int)≤i→out=.next s→AW P G nt F x (thenQ (fun _=>False) Q) (st i s)):AW P G nt F (.loop x) Q σ:=
 AW.evC st f h hs (fun i p s h1 h2 h3 c h4 h5=>body i p s h1 h2 h3 c h4 h5 _ fun s' _ e h=>⟨s',e,h⟩) done
theorem AW.evSK {α S:Type} (st:Int→S→St) (f:Int→α→S→Option S) {xs:List α} {s0 out:S} {x:ICode} {Q:Post} {σ:St} (h:eachS f xs 0 s0=some out) (hs:Can G nt σ (st 0 s0))
  (body:∀ (i:Int) p s,0≤i→i<xs.length→xs[i.toNat]?=some p→∀ c,f i p s=some c→∀ K:St→Prop,(∀ σ',Can G nt σ' (st (i+1) c)→K σ')→AW P G nt F x (thenQ K Q) (st i s))
  (done:∀ (i:Int) s,0≤i→(xs.length:Int)≤i→s=out→AW P G nt F x (thenQ (fun _=>False) Q) (st i s)):AW P G nt F (.loop x) Q σ:=
 AW.evS st f h hs (fun i p s h1 h2 h3 c h4=>body i p s h1 h2 h3 c h4 _ fun _ h=>h) done
theorem AW.lpCK {S R:Type} (st:Int→S→St) (f:Int→S→Option (Ctl S R)) (N:Int) {i0:Int} {s0:S} {out:Ctl S R} {x:ICode} {Q:Post} {σ:St} (h:forC f (N - i0).toNat i0 s0=some out) (hs:Can G nt σ (st i0 s0))
  (body:∀ i s,i0≤i→i<N→∀ c,f i s=some c→(∀ r,c=.brk r→out=.brk r)→∀ K:St→Prop,(∀ s' σ',c=.next s'→Can G nt σ' (st (i+1) s')→K σ')→AW P G nt F x (thenQ K Q) (st i s))
  (done:∀ i s,i0≤i→N≤i→out=.next s→AW P G nt F x (thenQ (fun _=>False) Q) (st i s)):AW P G nt F (.loop x) Q σ:=
 AW.lpC st f N h hs (fun i s h1 h2 c h4 h5=>body i s h1 h2 c h4 h5 _ fun s' _ e h=>⟨s',e,h⟩) done
theorem AW.lpSK {S:Type} (st:Int→S→St) (f:Int→S→Option S) (N:Int) {i0:Int} {s0 out:S} {x:ICode} {Q:Post} {σ:St} (h:forS f (N - i0).toNat i0 s0=some out) (hs:Can G nt σ (st i0 s0))
  (body:∀ i s,i0≤i→i<N→∀ c,f i s=some c→∀ K:St→Prop,(∀ σ',Can G nt σ' (st (i+1) c)→K σ')→AW P G nt F x (thenQ K Q) (st i s))
  (done:∀ i s,i0≤i→N≤i→s=out→AW P G nt F x (thenQ (fun _=>False) Q) (st i s)):AW P G nt F (.loop x) Q σ:=
 AW.lpS st f N h hs (fun i s h1 h2 c h4=>body i s h1 h2 c h4 _ fun _ h=>h) done
theorem AW.whK {S R:Type} (st:S→St) (f:S→Option (Ctl S R)) {n:Nat} {s0:S} {out:R} {x:ICode} {Q:Post} {σ:St} (h:whileC f n s0=some out) (hs:Can G nt σ (st s0))
  (body:∀ s c,f s=some c→(∀ r,c=.brk r→r=out)→∀ K:St→Prop,(∀ s' σ',c=.next s'→Can G nt σ' (st s')→K σ')→AW P G nt F x (thenQ K Q) (st s)):AW P G nt F (.loop x) Q σ:=
 AW.wh st f h hs (fun s c h4 h5=>body s c h4 h5 _ fun s' _ e h=>⟨s',e,h⟩)
theorem SCall.mkK {f:Nat} {fn:Func} {i:IFun} {vs:List V} {H:List (Nat×Blk)} {nx:Nat} {fr:Fr} {r:V} {H':List (Nat×Blk)} {nx':Nat} {fr':Fr} (hf:P.funcs[f]?=some fn) (ht:trF P fn=some i) (hlen:Nat.ble vs.length i.nt=true) (hnx:Nat.ble nx nx'=true) (hb:scB H' H=true)
  (h:∀ Q:Post,(∀ σ,RetQ i.res r H' nx' fr' nx σ→Q .ret σ)→(∀ σ,RetQ i.res r H' nx' fr' nx σ→Q .normal σ)→AW P G i.nt Fence.wide i.body Q ⟨envOf 0 vs,H,nx,fr,[],nx⟩):SCall P G f vs H nx fr r H' nx' fr':=
 SCall.mk hf ht hlen hnx hb (h _ (fun _ h=>h) (fun _ h=>h))
theorem AW.srwK {ops:List IOper} {y:ICode} {Q:Post} {σ:St} (h:∀ Q':Post,(∀ σ1,AW P G nt F y Q σ1→Q' .normal σ1)→RW P G nt F ops Q' σ):AW P G nt F (.seq (.reg false ops) y) Q σ:=AW.seq (AW.regW (h _ fun _ h=>h))
theorem AW.sdrwK (hF:FOk F) {ops:List IOper} {y:ICode} {Q:Post} {σ:St} (h:∀ Q':Post,(∀ σ1,AW P G nt F y Q σ1→Q' .normal σ1)→RunC P G nt (Kd ops Q') ops σ []):AW P G nt F (.seq (.reg true ops) y) Q σ:=AW.seq (AW.drw hF (h _ fun _ h=>h))
end
end Go.Abs
namespace Go.Abs
open Go.ChangeShapes Go.WideShapes Go.ChangeAt Go.WideMaps Go.WideElems Go.RowKit
inductive Sp where
 | i (k:IntKind)
 | b
 | tx
 | sl (es:List Sp)
section
variable {H:Type} {enc:TypeId×Value→H} {P:Program} {w:World} {spare:Nat→Bool} {held:Bool} {A:Nat→Prop}
theorem cell_lt {a:Addr} {v:Value} (h:w.cell? a=some v):a.block<w.heap.size∧a.spot=none:=by
 unfold World.cell? at h
 split at h
 ·rename_i c _ _ hc
  refine ⟨?_,?_⟩
  ·exact (Array.getElem?_eq_some_iff.1 hc).1
  ·cases hs:a.spot with
   | none=>rfl
   | some x=>simp [hs] at h
 ·cases h
end
end Go.Abs
namespace Go.Abs
open Go.ChangeShapes Go.WideShapes Go.ChangeAt Go.WideMaps Go.WideElems Go.RowKit
def cx0 (W:World):Cx:=⟨fun _=>none,fun g=>g<W.heap.size,fun _=>False,0⟩
def GlOk (G:Gl) (W:World):Prop:=∀ g row,look G g=some row→g<W.heap.size∧∀ (j:Nat) (x:D),row[j]?=some x→∃ cv,W.cell? ⟨g,j,none⟩=some cv∧DRel (fun g=>g<W.heap.size) W x cv
abbrev ArgR (W:World) (x:V) (v:Value):Prop:=VRel (cx0 W) (look ([]:List (Nat×Blk))) (fun r=>r<0) W x v
theorem scall_calls {P:Program} {G:Gl} {f:Nat} {vs:List V} {W:World} {args:Array Value} (h:SCall P G f vs [] 0 Fr.emp (.d (.bool true)) [] 0 Fr.emp) (hG:GlOk G W) (hlen:args.size=vs.length)
  (hv:∀ (i:Nat) (x:V) (v:Value),vs[i]?=some x→args[i]?=some v→ArgR W x v):Calls P f args W fun e W'=>e=.returned (.bool true)∧Below W.heap.size W W':=by
 rw [← callsIn_wide (n:=0)]
 refine CallsIn.mono (h (cx0 W) W args hlen hv ?_) fun e W' hr=>?_
 ·exact {
   lt:=fun r b h=>by cases h
   pl:=fun r b h=>by cases h
   inj:=fun r r' b b' g m m' h=>by cases h
   nA:=fun r b g m h=>by cases h
   nO:=fun r b g m h=>by cases h
   AO:=fun g _ h=>h
   Alt:=fun g h=>h
   Olt:=fun g h=>h.elim
   fr:=fun g h=>h
   gl:=fun g row h=>hG g row h }
 ·obtain ⟨rv,c',rfl,hr,_,_,hx⟩:=hr
  have e:rv=.bool true:=by cases hr with | d _ _ h=>cases h;rfl
  subst e
  exact ⟨rfl,hx.os,hx.tape,hx.output,hx.size,fun k hk=>hx.same k hk (fun r b m h=>by cases h) (fun h=>h)⟩
section
variable {H:Type} {enc:TypeId×Value→H} {P:Program} {W W':World}
theorem trodAll_stays (hl:laidOutB P=true) (hb:Below W.heap.size W W') (sp:Nat→Bool):∀ (ts:List TypeId) (vs:List Value) (ds:List (DataW H)) (ps:List MemPlace),(ts.all fun t=>P.readableRec t&&decide (t<P.types.size))=true →
  DataW.TrodAll enc P W 0 (fun _=>true) true ts vs ds ps→(∀ x,x∈ps→x.block<W.heap.size∧sp x.block=true)→DataW.TrodAll enc P W' 0 sp true ts vs ds ps
 | [],[],[],ps,_,h,_=>h
 | t::ts,v::vs,d::ds,ps,hr,h,hp=>by
  obtain ⟨p,q,h1,h2,rfl⟩:=h
  simp only [List.all_cons,Bool.and_eq_true,decide_eq_true_eq] at hr
  exact ⟨p,q,WideElems.Trod_stays hl hr.1.1 hr.1.2 h1 (fun x hx=>hb.same (hp x (by simp [hx])).1) (fun x hx=>(hp x (by simp [hx])).2),
   trodAll_stays hl hb sp ts vs ds q (by simpa using hr.2) h2 (fun x hx=>hp x (by simp [hx])),rfl⟩
 | [],[],_::_,_,_,h,_=>h.elim
 | [],_::_,_,_,_,h,_=>h.elim
 | _::_,[],_,_,_,h,_=>h.elim
 | _::_,_::_,[],_,_,h,_=>h.elim
theorem trodAll_len:∀ (ts:List TypeId) (vs:List Value) (ds:List (DataW H)) (ps:List MemPlace),DataW.TrodAll enc P W 0 (fun _=>true) true ts vs ds ps→ds.length=ts.length
 | [],[],[],ps,h=>rfl
 | t::ts,v::vs,d::ds,ps,h=>by obtain ⟨p,q,h1,h2,rfl⟩:=h;simp [trodAll_len ts vs ds q h2]
 | [],[],_::_,_,h=>h.elim
 | [],_::_,_,_,h=>h.elim
 | _::_,[],_,_,h=>h.elim
 | _::_,_::_,[],_,h=>h.elim
theorem card_post {fn:Func} {s:ChangeSpec} {args:Array Value} {ds gs:List (DataW H)} {before:List MemPlace} {tb:TypeId} (hl:laidOutB P=true) (hb:Below W.heap.size W W')
  (hr:(fn.params.toList.all fun t=>P.readableRec t&&decide (t<P.types.size))=true) (hsv:s.vars=[]) (hfn:∀ l:List (DataW H),l.length=fn.params.toList.length→s.fn H l={ results:=[.lit (.bool true)],args:=l })
  (hres:fn.resultTypes=#[tb]) (htb:P.underlying tb=some .bool) (hW:DataW.Whole enc P fn.params.toList s.vars false W args.toList ds gs before) :
  s.post enc P fn false true false false W args (.bool true) W':=by
 have hlt:=hW.lt
 have hW':=hW
 obtain ⟨p,q,hA,hV,rfl,_,_⟩:=hW
 rw [hsv] at hV
 obtain ⟨rfl,rfl⟩:=trodVars_none hV
 have e:=hfn ds (trodAll_len _ _ _ _ hA)
 refine ⟨ds,[],p++[],[],p,[],hW',?_,?_,?_,hb.frame _,fun h=>by cases h⟩
 ·rw [List.append_nil,e,hres]
  exact trodAll_mk1 (shut_bool htb _)
 ·rw [List.append_nil,e]
  exact trodAll_stays hl hb _ _ _ _ _ hr hA (fun x hx=>⟨by simpa using hlt x (by simp [hx]),by simpa using hlt x (by simp [hx])⟩)
 ·rw [List.append_nil,e,hsv]
  rfl
end
end Go.Abs
namespace Go.Abs
theorem HStep.trans {c c1 c2:Cx} {H H1 H2:Hp} {U U1 U2:Nat→Prop} (h1:HStep c H U c1 H1 U1) (h2:HStep c1 H1 U1 c2 H2 U2):HStep c H U c2 H2 U2 where
 hU:=fun r hr=>h2.hU r (h1.hU r hr)
 hy:=h2.hy.trans h1.hy
 hA:=fun g hg=>h2.hA g (h1.hA g hg)
 var:=fun r0 T0 c0 h0=>by
  obtain ⟨a1,c1,a2⟩:=h1.var _ _ _ h0
  obtain ⟨a3,c2,a4⟩:=h2.var _ _ _ a2
  exact ⟨a3.trans a1,c2,a4⟩
 row:=fun r0 T0 es0 xs0 hu h0=>by
  obtain ⟨y1,a1,a2,a3⟩:=h2.row _ _ _ _ (h1.hU _ hu) h0
  obtain ⟨y2,b1,b2,b3⟩:=h1.row _ _ _ _ hu a1
  exact ⟨y2,b1,by omega,fun e=>(a3 (by omega)).trans (b3 (by omega))⟩
 mp:=fun r0 es0 h0=>by
  obtain ⟨a1,c1,a2⟩:=h1.mp _ _ h0
  obtain ⟨a3,c2,a4⟩:=h2.mp _ _ a2
  exact ⟨a3.trans a1,c2,a4⟩
 dm:=fun r0 h0=>by
  obtain ⟨a1,a2⟩:=h1.dm _ h0
  obtain ⟨a3,a4⟩:=h2.dm _ a2
  exact ⟨a3.trans a1,a4⟩
 arr:=fun r0 T0 c0 hu h0=>by
  obtain ⟨y1,a1,a2⟩:=h2.arr _ _ _ (h1.hU _ hu) h0
  obtain ⟨y2,b1,b2⟩:=h1.arr _ _ _ hu a1
  exact ⟨y2,b1,a2.trans b2⟩
theorem HStep.forget {c:Cx} {H:Hp} {U:Nat→Prop} {nm:Nat} (hn:H nm=none):HStep c (upd H nm .dead) U c H U where
 hU:=fun _ h=>h
 hy:=rfl
 hA:=fun _ h=>h
 var:=fun r T cs h0=>by
  by_cases e:nm=r
  ·subst e;rw [upd_same] at h0;cases h0
  ·exact ⟨rfl,cs,by rwa [upd_other _ _ _ _ e] at h0⟩
 row:=fun r T es xs _ h0=>by
  by_cases e:nm=r
  ·subst e;rw [hn] at h0;cases h0
  ·exact ⟨xs,by rwa [upd_other _ _ _ _ e],Nat.le_refl _,fun _=>rfl⟩
 mp:=fun r es h0=>by
  by_cases e:nm=r
  ·subst e;rw [upd_same] at h0;cases h0
  ·exact ⟨rfl,es,by rwa [upd_other _ _ _ _ e] at h0⟩
 dm:=fun r h0=>by
  by_cases e:nm=r
  ·subst e;rw [upd_same] at h0;cases h0
  ·exact ⟨rfl,by rwa [upd_other _ _ _ _ e] at h0⟩
 arr:=fun r T cs _ h0=>by
  by_cases e:nm=r
  ·subst e;rw [hn] at h0;cases h0
  ·exact ⟨cs,by rwa [upd_other _ _ _ _ e],rfl⟩
theorem HRel.forget {G:Gl} {c:Cx} {H:Hp} {U:Nat→Prop} {fr:Fr} {w:World} {nm:Nat} (h:HRel G c (upd H nm .dead) U fr w) (hn:H nm=none):HRel G c H U fr w:=by
 have old:∀ r b,H r=some b→upd H nm .dead r=some b:=fun r b h0=>by
  by_cases e:nm=r
  ·subst e;rw [hn] at h0;cases h0
  ·rwa [upd_other _ _ _ _ e]
 refine ⟨fun r b h0=>h.lt _ _ (old _ _ h0),fun r b h0=>?_,fun r r' b b' g m m' h0 h1=>h.inj _ _ _ _ _ _ _ (old _ _ h0) (old _ _ h1),fun r b g m h0=>h.nA _ _ _ _ (old _ _ h0),fun r b g m h0=>h.nO _ _ _ _ (old _ _ h0),h.AO,h.Alt,h.Olt,h.fr,h.gl⟩
 rcases h.pl _ _ (old _ _ h0) with ⟨g,m,hf,hB⟩ | hu
 ·exact .inl ⟨g,m,hf,hB.mono rfl (fun _ _=>rfl) (HStep.forget hn)⟩
 ·exact .inr hu
theorem upd_upd {α:Type} (f:Nat→Option α) (r:Nat) (x y:α):upd (upd f r x) r y=upd f r y:=by
 funext n
 by_cases e:r=n
 ·subst e;rw [upd_same,upd_same]
 ·rw [upd_other _ _ _ _ e,upd_other _ _ _ _ e,upd_other _ _ _ _ e]
section
variable {P:Program} {G:Gl} {nt:Nat}
theorem s_bslF {T es n:Nat} {z:List D} {parts:List (Nat×Nat×Opd)} {vs out:List V} {cs:List D} {ys:List (List D)} {nm:Nat} {fr:Fr} (hf:fillV ((repD n z).map .d) (plOf parts) vs=some out) (hu:unV out=some cs) (hl:(opOf parts).length=vs.length) (hlen:cs.length=n*es) (hn:n≤maxLen) (hy:rowsOf es n cs=ys) :
  LStp P G nt (.bsl T es n z parts) ((opOf parts).zip vs) [] (.d (.sl es ys)) ⟨[],[nm]⟩ fr fr:=by
 subst hy
 intro U E H o F c a w next Q ht hF hR hE hH hnw k
 have hn0:H nm=none:=by
  cases h0:H nm with
  | none=>rfl
  | some b=>exact absurd (hR.h.lt _ _ h0) (hnw nm (by simp))
 refine s_bsl (nm:=nm) hf hu hl hlen hn U E H o F c a w next Q ht hF hR hE hH hnw (fun c1 cv w1 hs1 hR1 hv1 hx1=>?_)
 have hr:hpOf [(nm,.row T es (rowsOf es n cs))] H nm=some (.row T es (rowsOf es n cs)):=upd_same _ _ _
 have hh:=hR1.h.fz hr
 have e:upd (hpOf [(nm,.row T es (rowsOf es n cs))] H) nm .dead=upd H nm .dead:=upd_upd _ _ _ _
 have hs2:=HStep.fz c1 _ (usOf [nm] U) hr
 rw [e] at hh hs2
 have hs3:HStep c1 (hpOf [(nm,.row T es (rowsOf es n cs))] H) (usOf [nm] U) (c1.fz nm) H (usOf [nm] U):=hs2.trans (HStep.forget hn0)
 refine k (c1.fz nm) cv w1 (hs1.trans hs3) ⟨hR1.nt,fun t v hv=>?_,hh.forget hn0⟩ ?_ ?_
 ·obtain ⟨u,h1,h2⟩:=hR1.env t v hv
  exact ⟨u,h1,h2.mono (fun _ _=>rfl) hs3⟩
 ·have:=VRel.fz hR1.h hr (rowsOf_len es n cs) hv1
  cases this with | d _ _ h=>exact .d _ _ h
 ·refine ⟨hx1.os,hx1.tape,hx1.output,hx1.size,hx1.hy,hx1.same,fun r b g m h0 f0=>?_,fun g hg=>.inl (hx1.A g hg),fun g hg=>?_,hx1.O'⟩
  ·by_cases e:nm=r
   ·simp [Cx.fz,e] at f0
   ·refine hx1.pl r b g m ?_ (by simpa [Cx.fz,e] using f0)
    exact (upd_other _ _ _ _ e).trans h0
  ·rcases hg with h | ⟨m,hm⟩
   ·exact hx1.A' g h
   ·exact .inr (hx1.pl nm _ g m hr hm)
def bAndN (x y:Int):Int:=wr (BitVec.ofInt 64 x &&& ~~~(BitVec.ofInt 64 y)).toNat
theorem s_andN {x y:Opd} {p q:Int} {fr:Fr}:LStp P G nt (.bin .andNot x y) [(x,.d (.int .i64 p)),(y,.d (.int .i64 q))] [] (.d (.int .i64 (bAndN p q))) ⟨[],[]⟩ fr fr:=
 s_binop (fun t w=>by
  have : binOp .andNot t (.int .i64 p) (.int .i64 q) = if IntKind.i64 ≠ IntKind.i64 then (stuck "BinOp: operands of different kinds" : Sem Value) else Op.intBits .andNot .i64 p q := rfl
  rw [this];simp [Op.intBits,bAndN,wr];rfl) (fun _ _ _ _=>.d _ _ (.int _ _))
theorem s_snil {x:Opd} {es:Nat} {xs:List (List D)} {fr:Fr} (h:0<(xs.length:Int)):LStp P G nt (.snil x) [(x,.d (.sl es xs))] [] (.d (.bool false)) ⟨[],[]⟩ fr fr:=by
 refine .pure fun U E H o c ac w ht hR hE hH=>?_
 generalize hop:o.op=op' at ht
 cases ht with
 | snil ht h1=>
  have e1:=ev_ok hR h1 hE.1
  generalize ha:ac.eval _=av at e1
  cases e1 with
  | d _ _ hd=>
   cases hd with
   | sl _ _ a c cv hc hb hA hes hcell hrel=>
    obtain ⟨g,o,rfl,_⟩:=hA (by omega)
    refine ⟨by simp,.bool false,?_,.d _ _ (.bool _)⟩
    have hg:∀ (n m n' c':Nat) xo yo t (w:World),(eqGuard .eql t xo yo (.slice (some ⟨g,o,none⟩) n m) (.slice none n' c')).run P w=.ok () w:=fun _ _ _ _ _ _ _ _=>rfl
    have hk:∀ v:Value,ac.eval (.const v)=v:=fun _=>rfl
    simp only [execOp,hop,ha,hk,Sem.run_bind,hg,Result.andThen_ok,Lib.run_eql_slice_nil w _ _ _ _ _ _ _ ht,Sem.run_pure,Option.isNone]
end
section
variable {P:Program} {G:Gl} {nt:Nat} {F:Fence} {K:St→List SD→Prop} {rest:List IOper} {σ:St} {sds:List SD} {g:Option (Nat×Bool)} {aft:List Nat}
theorem r_bslF {t T es n:Nat} {z:List D} {parts:List (Nat×Nat×Opd)} {vs out:List V} {cs:List D} {ys:List (List D)} (hg:Wants σ g) (hx:evs G (look σ.env) (opOf parts)=some vs) (hf:fillV ((repD n z).map .d) (plOf parts) vs=some out) (hu:unV out=some cs) (hl:Nat.beq (opOf parts).length vs.length=true) (hlen:Nat.beq cs.length (n*es)=true) (hn:Nat.ble n maxLen=true) (hy:rowsOf es n cs=ys)
  (k:RunC P G nt K rest { env:=(t,.d (.sl es ys))::σ.env,heap:=σ.heap,nx:=σ.nx+1,fr:=σ.fr,dfs:=σ.dfs,base:=σ.base } (sds++[sdOf g ((opOf parts).zip vs) [] ⟨[],[σ.nx]⟩])):RunC P G nt K (⟨some t,g,.bsl T es n z parts,aft⟩::rest) σ sds:=
 .step (s_bslF hf hu (Nat.eq_of_beq_eq_true hl) (Nat.eq_of_beq_eq_true hlen) (Nat.le_of_ble_eq_true hn) hy) hg (Evs.zip hx) trivial rfl k
theorem r_andN {d:Option Nat} {x y:Opd} {p q:Int} (hg:Wants σ g) (hx:ev G (look σ.env) x=some (.d (.int .i64 p))) (hy:ev G (look σ.env) y=some (.d (.int .i64 q)))
  (k:RunC P G nt K rest (σ.put d (.d (.int .i64 (bAndN p q)))) (sds++[sdOf g [(x,.d (.int .i64 p)),(y,.d (.int .i64 q))] [] ⟨[],[]⟩])):RunC P G nt K (⟨d,g,.bin .andNot x y,aft⟩::rest) σ sds:=
 .val s_andN hg ⟨hx,hy,trivial⟩ trivial k
theorem r_snil {α:Type} {d:Option Nat} {x:Opd} {es:Nat} {f:α→List D} {xs:List α} (hg:Wants σ g) (hx:ev G (look σ.env) x=some (.d (.sl es (List.map f xs)))) (h:0<(xs.length:Int))
  (k:RunC P G nt K rest (σ.put d (.d (.bool false))) (sds++[sdOf g [(x,.d (.sl es (List.map f xs)))] [] ⟨[],[]⟩])):RunC P G nt K (⟨d,g,.snil x,aft⟩::rest) σ sds:=
 .val (s_snil (by rw [List.length_map];exact h)) hg ⟨hx,trivial⟩ trivial k
end
end Go.Abs
namespace Go.Abs
def Cx.mvr (c:Cx) (r nm:Nat):Cx:={ fm:=fun n=>if nm=n then c.fm r else if r=n then none else c.fm n,A:=c.A,O:=c.O,y:=c.y }
section
variable {P:Program} {G:Gl} {nt:Nat}
theorem s_slO {es:Nat} {x hi:Opd} {r n T nm:Nat} {xs ys:List (List D)} {kh:IntKind} {h:Int} {fr:Fr} (hl:xs.length=n) (h0:0<h) (h1:h≤xs.length) (hy:xs.take h.toNat=ys) :
  LStp P G nt (.slc es x none (some hi) none) [(x,.own r n),(hi,.d (.int kh h))] [(r,.row T es xs)] (.own nm h.toNat) ⟨[(nm,.row T es ys),(r,.dead)],[nm]⟩ fr fr:=by
 subst hy
 intro U E H o F c ac w next Q ht hF hR hE hH hnw k
 generalize hop:o.op=op at ht
 generalize hlo:(none:Option Opd)=lo' at ht
 generalize hhi:some hi=hi' at ht
 generalize hmx:(none:Option Opd)=mx' at ht
 cases ht with
 | @slc t e j xo lo0 hi0 mx0 _ _ _ _ ht hj hx hlr hh hm=>
  have e1:=ev_ok hR hx hE.1
  subst hlo hhi hmx
  have get:∀ {y:Option Operand} {z:Opd},trOo y=some (some z)→∃ y',y=some y'∧trO y'=some z:=fun {y z} hy=>by
   cases y with
   | none=>simp [trOo] at hy
   | some y'=>simp only [trOo] at hy;split at hy<;>cases hy;exact ⟨y',rfl,by assumption⟩
  have hl1:lo0=none:=by
   cases lo0 with
   | none=>rfl
   | some y'=>simp only [trOo] at hlr;split at hlr<;>cases hlr
  subst hl1
  obtain ⟨hi1,rfl,hh1⟩:=get hh
  have hm1:mx0=none:=by
   cases mx0 with
   | none=>rfl
   | some y'=>simp only [trOo] at hm;split at hm<;>cases hm
  subst hm1
  have eh:=(ev_ok hR hh1 hE.2.1).int_inv
  have hr:H r=some (.row T j.size xs):=hH.1
  have hru:=hR.h.lt _ _ hr
  have hnU:¬ U nm:=hnw nm (by simp)
  have hne:nm≠r:=fun e=>hnU (e▸hru)
  have hn0:H nm=none:=by
   cases h0:H nm with
   | none=>rfl
   | some b=>exact absurd (hR.h.lt _ _ h0) hnU
  obtain ⟨g,m,hf,cur,hg,hc,hle,hm,hes,hu,hd⟩:=(hR.h.pl r _ hr).resolve_right (fun hn=>by
   obtain ⟨_,hu⟩:=hn
   generalize hb:Blk.row T j.size xs=b at hu
   cases hu with
   | row=>cases hb;simp at h1;omega
   | dead=>cases hb)
  generalize ha:ac.eval xo=av at e1
  cases e1 with
  | own _ _ a m' hru' hb hn hp=>
   have hp':=(hp T j.size xs hr hl).resolve_right (fun h=>by rw [hf] at h;cases h.1)
   obtain ⟨g',hf',rfl⟩:=hp'
   rw [hf] at hf';cases hf'
   have hH':hpOf [(nm,.row T j.size (xs.take h.toNat)),(r,.dead)] H=upd (upd H r .dead) nm (.row T j.size (xs.take h.toNat)):=rfl
   have fmn:(c.mvr r nm).fm nm=some (g,m):=by simp [Cx.mvr,hf]
   have fmr:(c.mvr r nm).fm r=none:=by simp [Cx.mvr,hne]
   have fmo:∀ q,nm≠q→r≠q→(c.mvr r nm).fm q=c.fm q:=fun q a b=>by simp [Cx.mvr,a,b]
   have Hn:(upd (upd H r .dead) nm (.row T j.size (xs.take h.toNat))) nm=some (.row T j.size (xs.take h.toNat)):=upd_same _ _ _
   have Hr:(upd (upd H r .dead) nm (.row T j.size (xs.take h.toNat))) r=some .dead:=by rw [upd_other _ _ _ _ hne,upd_same]
   have Ho:∀ q,nm≠q→r≠q→(upd (upd H r .dead) nm (.row T j.size (xs.take h.toNat))) q=H q:=fun q a b=>by rw [upd_other _ _ _ _ a,upd_other _ _ _ _ b]
   have hs:HStep c H U (c.mvr r nm) (upd (upd H r .dead) nm (.row T j.size (xs.take h.toNat))) (usOf [nm] U):=by
    refine ⟨fun _ h=>.inl h,rfl,fun _ h=>h,fun q T' cs hq=>?_,fun q T' es' xs' hU hq=>?_,fun q es' hq=>?_,fun q hq=>?_,fun q T' cs' hU hq=>?_⟩
    ·have b:nm≠q:=fun e=>by subst e;rw [hn0] at hq;cases hq
     have b':r≠q:=fun e=>by subst e;rw [hr] at hq;cases hq
     exact ⟨fmo q b b',cs,(Ho q b b').trans hq⟩
    ·have b:nm≠q:=fun e=>hnU (e▸hU)
     by_cases b':r=q
     ·subst b';rw [Hr] at hq;cases hq
     ·rw [Ho q b b'] at hq;exact ⟨xs',hq,Nat.le_refl _,fun _=>fmo q b b'⟩
    ·have b:nm≠q:=fun e=>by subst e;rw [hn0] at hq;cases hq
     have b':r≠q:=fun e=>by subst e;rw [hr] at hq;cases hq
     exact ⟨fmo q b b',es',(Ho q b b').trans hq⟩
    ·have b:nm≠q:=fun e=>by subst e;rw [hn0] at hq;cases hq
     have b':r≠q:=fun e=>by subst e;rw [hr] at hq;cases hq
     exact ⟨fmo q b b',(Ho q b b').trans hq⟩
    ·have b:nm≠q:=fun e=>hnU (e▸hU)
     by_cases b':r=q
     ·subst b';rw [Hr] at hq;cases hq
     ·rw [Ho q b b'] at hq;exact ⟨cs',hq,fmo q b b'⟩
   have key:∀ q b g0 m0,(upd (upd H r .dead) nm (.row T j.size (xs.take h.toNat))) q=some b→(c.mvr r nm).fm q=some (g0,m0)→∃ q0 b0,H q0=some b0∧c.fm q0=some (g0,m0)∧(q=nm→q0=r)∧(q≠nm→q0=q):=fun q b g0 m0 hq hf0=>by
    by_cases e:nm=q
    ·subst e;rw [fmn] at hf0;cases hf0;exact ⟨r,_,hr,hf,fun _=>rfl,fun h=>absurd rfl h⟩
    ·by_cases e':r=q
     ·subst e';rw [fmr] at hf0;cases hf0
     ·rw [Ho q e e'] at hq;rw [fmo q e e'] at hf0;exact ⟨q,b,hq,hf0,fun h=>absurd h.symm e,fun _=>rfl⟩
   have hh:HRel G (c.mvr r nm) (upd (upd H r .dead) nm (.row T j.size (xs.take h.toNat))) (usOf [nm] U) fr w:=by
    refine ⟨fun q b hq=>?_,fun q b hq=>?_,fun q q' b b' g0 m0 m1 hq hq' f0 f1=>?_,fun q b g0 m0 hq f0=>?_,fun q b g0 m0 hq f0=>?_,hR.h.AO,hR.h.Alt,hR.h.Olt,hR.h.fr,fun g0 row hg0=>hR.h.gl g0 row hg0⟩
    ·by_cases e:nm=q
     ·exact .inr (by simp [e])
     ·by_cases e':r=q
      ·exact .inl (e'▸hru)
      ·rw [Ho q e e'] at hq;exact .inl (hR.h.lt _ _ hq)
    ·by_cases e:nm=q
     ·subst e;rw [Hn] at hq;cases hq
      refine .inl ⟨g,m,fmn,cur,hg,hc,?_,hm,hes,fun i row hi=>?_,fun i k row x hi hx=>?_⟩
      ·rw [List.length_take];omega
      ·rw [List.getElem?_take] at hi;split at hi
       ·exact hu i row hi
       ·cases hi
      ·rw [List.getElem?_take] at hi;split at hi
       ·exact hd i k row x hi hx
       ·cases hi
     ·by_cases e':r=q
      ·subst e';rw [Hr] at hq;cases hq;exact .inr ⟨fmr,.dead⟩
      ·rw [Ho q e e'] at hq
       rcases hR.h.pl _ _ hq with ⟨g0,m0,f0,hB⟩ | ⟨f0,hu0⟩
       ·exact .inl ⟨g0,m0,(fmo q e e').trans f0,hB.mono rfl (fun _ _=>rfl) hs⟩
       ·exact .inr ⟨(fmo q e e').trans f0,hu0⟩
    ·obtain ⟨q0,b0,a1,a2,a3,a4⟩:=key _ _ _ _ hq f0
     obtain ⟨q1,b1,c1,c2,c3,c4⟩:=key _ _ _ _ hq' f1
     have:=hR.h.inj _ _ _ _ _ _ _ a1 c1 a2 c2
     subst this
     by_cases e:q=nm
     ·by_cases e':q'=nm
      ·rw [e,e']
      ·exfalso
       have x1:=a3 e;have x2:=c4 e'
       rw [x1] at x2;rw [← x2] at f1;rw [fmr] at f1;cases f1
     ·by_cases e':q'=nm
      ·exfalso
       have x1:=a4 e;have x2:=c3 e'
       rw [x2] at x1;rw [← x1] at f0;rw [fmr] at f0;cases f0
      ·rw [← a4 e,← c4 e']
    ·obtain ⟨q0,b0,a1,a2,_⟩:=key _ _ _ _ hq f0
     exact hR.h.nA _ _ _ _ a1 a2
    ·obtain ⟨q0,b0,a1,a2,_⟩:=key _ _ _ _ hq f0
     exact hR.h.nO _ _ _ _ a1 a2
   have hx:Ext c H w (c.mvr r nm) (upd (upd H r .dead) nm (.row T j.size (xs.take h.toNat))) w:=by
    refine ⟨rfl,rfl,rfl,Nat.le_refl _,rfl,fun _ _ _ _=>rfl,fun q b g0 m0 hq f0=>?_,fun _ h=>h,fun _ h=>.inl h,fun _ h=>.inr (.inl h)⟩
    obtain ⟨q0,b0,a1,a2,_⟩:=key _ _ _ _ hq f0
    exact .inr (.inr ⟨q0,b0,m0,a1,a2⟩)
   refine wp_value hF (cv:=.slice (some ⟨g,0,none⟩) h.toNat m) (by simp [hop]) ?_ (k (c.mvr r nm) _ w hs ⟨hR.nt,fun t v hv=>?_,hh⟩ ?_ hx)
   ·have hm0:m≠0:=by omega
    have hmc:h≤(m:Int):=by omega
    have h00:0≤h:=by omega
    simp only [execOp,hop,Instr.sliceAt,run_underlying ht,Sem.run_bind,Result.andThen_ok,ha,eh,Option.map_some,Option.map_none,Instr.slice,Instr.sliceBounds,run_bound h00 hmc,run_sizeOf hj,Sem.run_pure,hm0,if_false]
    simp [Addr.add,hm0]
   ·obtain ⟨cv,a1,a2⟩:=hR.env t v hv
    exact ⟨cv,a1,a2.mono (fun _ _=>rfl) hs⟩
   ·refine .own nm _ _ m (.inr (by simp)) (by omega) (fun T' es' xs' hq=>?_) (fun T' es' xs' hq hlen=>.inl ⟨g,fmn,rfl⟩)
    have hq:(upd (upd H r .dead) nm (.row T j.size (xs.take h.toNat))) nm=some (.row T' es' xs'):=hq
    rw [Hn] at hq;cases hq
    rw [List.length_take];omega
end
theorem slz0 {α β:Type} {xs l:List α} {h:Int} (hw:slcL xs 0 h=some l) (f:α→β):(xs.map f).take h.toNat=l.map f:=by
 have:=slz hw f
 simpa using this
theorem sll {α β:Type} {xs l:List α} {h:Int} {f:α→β} (hw:slcL xs 0 h=some l):h.toNat=(List.map f l).length:=by
 obtain ⟨a,b,c,rfl⟩:=slcL_ok hw
 simp;omega
section
variable {P:Program} {G:Gl} {nt:Nat} {F:Fence} {K:St→List SD→Prop} {rest:List IOper} {σ:St} {sds:List SD} {g:Option (Nat×Bool)} {aft:List Nat}
theorem r_slO {t es:Nat} {x hi:Opd} {r n n' T:Nat} {xs ys:List (List D)} {kh:IntKind} {h:Int} (hg:Wants σ g) (hx:ev G (look σ.env) x=some (.own r n)) (hhi:ev G (look σ.env) hi=some (.d (.int kh h))) (hr:look σ.heap r=some (.row T es xs)) (hl:xs.length=n) (h0:0<h) (h1:h≤xs.length) (hn':h.toNat=n') (hy:xs.take h.toNat=ys)
  (k:RunC P G nt K rest { env:=(t,.own σ.nx n')::σ.env,heap:=(σ.nx,.row T es ys)::(r,.dead)::σ.heap,nx:=σ.nx+1,fr:=σ.fr,dfs:=σ.dfs,base:=σ.base } (sds++[sdOf g [(x,.own r n),(hi,.d (.int kh h))] [(r,.row T es xs)] ⟨[(σ.nx,.row T es ys),(r,.dead)],[σ.nx]⟩])):RunC P G nt K (⟨some t,g,.slc es x none (some hi) none,aft⟩::rest) σ sds:=by
 subst hn'
 exact .step (s_slO hl h0 h1 hy) hg ⟨hx,hhi,trivial⟩ ⟨hr,trivial⟩ rfl k
end
end Go.Abs
namespace Go.Abs
abbrev sT (e:List (Nat×V)) (h:List (Nat×Blk)) (n m:Nat):St:=⟨e,h,n,Fr.emp,[],m⟩
abbrev jI (n:Int):V:=.d (I n)
abbrev pR (t r:Nat):Nat×V:=(t,.ptr r 0)
abbrev tP (t:Nat):Opd:=.tmp t
abbrev kP (n:Int):Opd:=.cst (.d (.int .i64 n))
abbrev oP (t:Nat) (x:IOp):IOper:=⟨some t,none,x,[]⟩
abbrev sP (x:IOp):IOper:=⟨none,none,x,[]⟩
abbrev rG (l:List IOper):ICode:=.reg false l
section
variable {P:Program} {G:Gl} {nt:Nat}
theorem Au {ops:List IOper} {Q:Post} {σ:St} (n:Nat) (σ1:St) (k:RW P G nt Fence.wide (ops.drop n) Q σ1) (h:segB G [] false (ops.take n) σ (keysE σ1.env) (keysL σ1.heap) σ1.nx=some σ1:=by kernel_rfl):RW P G nt Fence.wide ops Q σ:=RW.au fokW n [] σ1 h k
theorem Sa {d:Bool} {ops:List IOper} {y:ICode} {Q:Post} {σ:St} (σ1:St) (k:AW P G nt Fence.wide y Q σ1) (h:segB G [] d ops σ (keysE σ1.env) (keysL σ1.heap) σ1.nx=some σ1:=by kernel_rfl):AW P G nt Fence.wide (.seq (.reg d ops) y) Q σ:=AW.sa fokW [] σ1 h k
theorem Ra {d:Bool} {ops:List IOper} {Q:Post} {σ:St} (σ1:St) (k:Q .normal σ1) (h:segB G [] d ops σ (keysE σ1.env) (keysL σ1.heap) σ1.nx=some σ1:=by kernel_rfl):AW P G nt Fence.wide (.reg d ops) Q σ:=AW.ra fokW [] σ1 h k
theorem aX {K:St→List SD→Prop} {ops:List IOper} {σ:St} {sds:List SD} (n:Nat) (σ1:St) (k:RunC P G nt (Kc K) (ops.drop n) σ1 (sds++sdsC G (ops.take n) σ)) (h:autR G (ops.take n) σ (keysE σ1.env)=some σ1:=by kernel_rfl):RunC P G nt (Kc K) ops σ sds:=RunC.auX n σ1 h k
theorem Fi {ops:List IOper} {Q:Post} {σ:St} {sds:List SD} (σ1:St) (k:Q .normal σ1) (hok:okD ops sds=true:=by kernel_rfl) (h:keepS σ (keysE σ1.env) (keysL σ1.heap) σ1.nx=some σ1:=by kernel_rfl):RunC P G nt (Kd ops Q) [] σ sds:=RunC.fin σ1 hok h k
theorem rC {d:Option Nat} {f:Nat} {args:List Opd} {vs:List V} {r:V} {ops:List IOper} {aft:List Nat} {Q:Post} {σ:St} (h:PCall P G f vs r) (k:RW P G nt Fence.wide ops Q (σ.put d r)) (hx:evs G (look σ.env) args=some vs:=by exact rfl) (hl:Nat.beq args.length vs.length=true:=by exact rfl) (hok:V.okR.okRs 0 (fun _=>false) vs=true:=by exact rfl):RW P G nt Fence.wide (⟨d,none,.call f args,aft⟩::ops) Q σ:=
 RW.one fokW (r_call trivial hx h hl hok (r_end k))
theorem rL {d:Option Nat} {x:Opd} {α:Type} {f:α→List D} {es:Nat} {xs:List α} {ops:List IOper} {aft:List Nat} {Q:Post} {σ:St} (hx:ev G (look σ.env) x=some (.d (.sl es (List.map f xs)))) (k:RW P G nt Fence.wide ops Q (σ.put d (.d (.int .i64 (xs.length:Int))))):RW P G nt Fence.wide (⟨d,none,.len x,aft⟩::ops) Q σ:=
 RW.one fokW (r_lenX trivial hx lenm (r_end k))
theorem rT {F:Fence} {rs:List IRes} {r:V} {H':List (Nat×Blk)} {nx' nx0:Nat} {fr':Fr} {σ:St} {vs:List V} {Q:Post} (hR:∀ σ,RetQ rs r H' nx' fr' nx0 σ→Q .ret σ) (hv:ResVs σ rs vs) (hz:Frz (hzOf σ.heap H') (retV vs) r:=by exact .refl _) (hfr:σ.fr=fr':=by exact rfl) (hH:selH σ.heap (keysL H')=some H':=by kernel_rfl) (hb:endB σ r H' nx' nx0=true:=by kernel_rfl):AW P G nt F .ret Q σ:=
 AW.ret (hR _ (retX hv hz hfr hH hb))
end
end Go.Abs
namespace Go.Abs
def preM (acc:List Nat):List Nat→Nat
 | []=>0
 | k::ks=>(2 ^ k ||| acc.getD k 0) ||| preM acc ks
def presM:List Nat→List (List Nat)→List Nat
 | acc,[]=>acc
 | acc,a::as=>presM (acc++[preM acc a]) as
theorem addAll_l {y:Nat}:∀ {ys acc:List Nat},y∈acc→y∈addAll acc ys
 | [],acc,h=>by simpa [addAll] using h
 | z::ys,acc,h=>by
  simp only [addAll]
  refine addAll_l ?_
  cases acc.contains z<;>simp [h]
theorem addAll_r {y:Nat}:∀ {ys acc:List Nat},y∈ys→y∈addAll acc ys
 | z::ys,acc,h=>by
  simp only [addAll]
  cases h with
  | head=>
   refine addAll_l ?_
   cases hc:acc.contains y with
   | true=>exact List.contains_iff_mem.1 hc
   | false=>simp
  | tail _ h=>exact addAll_r h
theorem preM_ok {acc:List (List Nat)} {accM:List Nat} (h:∀ j i,(accM.getD j 0).testBit i=true→i∈acc.getD j []) {i:Nat}:∀ {ks:List Nat},(preM accM ks).testBit i=true→i∈preOf acc ks
 | [],hi=>by simp [preM] at hi
 | k::ks,hi=>by
  simp only [preM,Nat.testBit_or,Nat.testBit_two_pow,Bool.or_eq_true,decide_eq_true_eq] at hi
  simp only [preOf]
  rcases hi with (rfl | hi) | hi
  ·refine addAll_l ?_
   cases hc:(preOf acc ks).contains k with
   | true=>exact List.contains_iff_mem.1 hc
   | false=>simp
  ·exact addAll_r (h _ _ hi)
  ·refine addAll_l ?_
   have:=preM_ok h hi
   cases hc:(preOf acc ks).contains k<;>simp [this]
theorem presM_ok:∀ {as:List (List Nat)} {acc:List (List Nat)} {accM:List Nat},acc.length=accM.length→(∀ j i,(accM.getD j 0).testBit i=true→i∈acc.getD j []) →
  (pres acc as).length=(presM accM as).length∧∀ j i,((presM accM as).getD j 0).testBit i=true→i∈(pres acc as).getD j []
 | [],acc,accM,hl,h=>⟨hl,h⟩
 | a::as,acc,accM,hl,h=>by
  refine presM_ok (as:=as) (acc:=acc++[preOf acc a]) (accM:=accM++[preM accM a]) (by simp [hl]) (fun j i hi=>?_)
  by_cases e:j<accM.length
  ·rw [List.getD_eq_getElem?_getD,List.getElem?_append_left e,← List.getD_eq_getElem?_getD] at hi
   rw [List.getD_eq_getElem?_getD,List.getElem?_append_left (by omega),← List.getD_eq_getElem?_getD]
   exact h j i hi
  ·rw [List.getD_eq_getElem?_getD,List.getElem?_append_right (by omega)] at hi
   rw [List.getD_eq_getElem?_getD,List.getElem?_append_right (by omega),hl]
   by_cases e2:j - accM.length=0
   ·rw [e2] at hi ⊢
    simp only [List.getElem?_cons_zero,Option.getD_some] at hi ⊢
    exact preM_ok h hi
   ·obtain ⟨m,hm⟩:∃ m,j - accM.length=m+1:=⟨j - accM.length - 1,by omega⟩
    rw [hm] at hi
    simp at hi
def okFromM (i:Nat) (a:DD):List DD→List Nat→Bool
 | [],_=>true
 | b::bs,p::ps=>(p.testBit i||(!a.sd.fx&&!b.sd.fx&&indep a b))&&disj a.sd.nw b.sd.nw&&okFromM i a bs ps
 | _::_,[]=>false
def okAllM:Nat→List DD→List Nat→Bool
 | _,[],_=>true
 | i,a::as,_::ps=>okFromM i a as ps&&okAllM (i+1) as ps
 | _,_::_,[]=>false
theorem okFromM_ok {i:Nat} {a:DD}:∀ {bs:List DD} {ps:List (List Nat)} {pm:List Nat},ps.length=pm.length→(∀ j i,(pm.getD j 0).testBit i=true→i∈ps.getD j [])→okFromM i a bs pm=true→okFrom i a bs ps=true
 | [],ps,pm,hl,h,hk=>by simp [okFrom]
 | b::bs,[],[],hl,h,hk=>by simp [okFromM] at hk
 | b::bs,p::ps,m::pm,hl,h,hk=>by
  simp only [okFromM,Bool.and_eq_true,Bool.or_eq_true] at hk
  simp only [okFrom,Bool.and_eq_true,Bool.or_eq_true]
  refine ⟨⟨hk.1.1.imp (fun e=>List.contains_iff_mem.2 (by simpa using h 0 i (by simpa using e))) id,hk.1.2⟩,okFromM_ok (by simpa using hl) (fun j i' e=>by simpa using h (j+1) i' (by simpa using e)) hk.2⟩
 | b::bs,[],_::_,hl,h,hk=>by simp at hl
 | b::bs,_::_,[],hl,h,hk=>by simp at hl
theorem okAllM_ok:∀ {ds:List DD} {i:Nat} {ps:List (List Nat)} {pm:List Nat},ps.length=pm.length→(∀ j i,(pm.getD j 0).testBit i=true→i∈ps.getD j [])→okAllM i ds pm=true→okAll i ds ps=true
 | [],i,ps,pm,hl,h,hk=>by simp [okAll]
 | a::ds,i,[],[],hl,h,hk=>by simp [okAllM] at hk
 | a::ds,i,p::ps,m::pm,hl,h,hk=>by
  simp only [okAllM,Bool.and_eq_true] at hk
  simp only [okAll,Bool.and_eq_true]
  have hl':ps.length=pm.length:=by simpa using hl
  have h':∀ j i,(pm.getD j 0).testBit i=true→i∈ps.getD j []:=fun j i' e=>by simpa using h (j+1) i' (by simpa using e)
  exact ⟨okFromM_ok hl' h' hk.1,okAllM_ok hl' h' hk.2⟩
 | a::ds,i,[],_::_,hl,h,hk=>by simp at hl
 | a::ds,i,_::_,[],hl,h,hk=>by simp at hl
def okD2 (ops:List IOper) (sds:List SD):Bool:=
 let ds:=ddOfs ops sds
 ltAlls 0 (ds.map (·.aft))&&okAllM 0 ds (presM [] (ds.map (·.aft)))
theorem okD2_ok {ops:List IOper} {sds:List SD} (h:okD2 ops sds=true):okD ops sds=true:=by
 simp only [okD2,Bool.and_eq_true] at h
 simp only [okD,Bool.and_eq_true]
 have:=presM_ok (as:=(ddOfs ops sds).map (·.aft)) (acc:=[]) (accM:=[]) rfl (fun j i e=>by simp at e)
 exact ⟨h.1,okAllM_ok this.1 this.2 h.2⟩
section
variable {P:Program} {G:Gl} {nt:Nat}
theorem RunC.fin2 {ops:List IOper} {Q:Post} {σ:St} {sds:List SD} (σ1:St) (hok:okD2 ops sds=true) (h:keepS σ (keysE σ1.env) (keysL σ1.heap) σ1.nx=some σ1) (k:Q .normal σ1):RunC P G nt (Kd ops Q) [] σ sds:=RunC.fin σ1 (okD2_ok hok) h k
end
end Go.Abs
namespace Go.Abs
def flatV:List (List D)→List V
 | []=>[]
 | r::l=>r.map .d++flatV l
theorem flatV_len {es:Nat}:∀ (xs:List (List D)),(∀ (i:Nat) row,xs[i]?=some row→row.length=es)→(flatV xs).length=xs.length*es
 | [],_=>by simp [flatV]
 | r::l,h=>by
  rw [flatV,List.length_append,List.length_map,flatV_len l (fun i row hi=>h (i+1) row (by simpa using hi)),h 0 r (by simp),List.length_cons,Nat.add_mul]
  omega
theorem flatV_get {es:Nat}:∀ (xs:List (List D)) (i j:Nat) (row:List D) (x:D),(∀ (i:Nat) row,xs[i]?=some row→row.length=es)→xs[i]?=some row→row[j]?=some x→(flatV xs)[i*es+j]?=some (.d x)
 | [],i,j,row,x,_,hi,_=>by simp at hi
 | r::l,0,j,row,x,h,hi,hx=>by
  simp at hi;subst hi
  have hj:=(List.getElem?_eq_some_iff.1 hx).1
  rw [flatV,Nat.zero_mul,Nat.zero_add,List.getElem?_append_left (by simpa using hj),List.getElem?_map,hx];rfl
 | r::l,i+1,j,row,x,h,hi,hx=>by
  have hr:=h 0 r (by simp)
  have e:(i+1)*es+j=i*es+j+es:=by rw [Nat.add_mul];omega
  rw [flatV,List.getElem?_append_right (by rw [List.length_map,hr];omega),List.length_map,hr,e,Nat.add_sub_cancel]
  exact flatV_get l i j row x (fun i row hi=>h (i+1) row (by simpa using hi)) (by simpa using hi) hx
theorem HStep.setArr {c:Cx} {H:Hp} {U:Nat→Prop} {r g m T:Nat} {cs cs':List V} (hr:H r=some (.arr T cs)) (hf:c.fm r=some (g,m)) :
  HStep c H U (c.put r g m) (upd H r (.arr T cs')) U where
 hU:=fun _ h=>h
 hy:=rfl
 hA:=fun _ h=>h
 var:=fun r0 T0 cs0 h0=>by
  by_cases e:r=r0
  ·subst e;rw [hr] at h0;cases h0
  ·exact ⟨upd_other _ _ _ _ e,cs0,(upd_other _ _ _ _ e).trans h0⟩
 row:=fun r0 T0 es xs _ h0=>by
  by_cases e:r=r0
  ·subst e;rw [upd_same] at h0;cases h0
  ·rw [upd_other _ _ _ _ e] at h0
   exact ⟨xs,h0,Nat.le_refl _,fun _=>upd_other _ _ _ _ e⟩
 mp:=fun r0 es h0=>by
  by_cases e:r=r0
  ·subst e;rw [hr] at h0;cases h0
  ·exact ⟨upd_other _ _ _ _ e,es,(upd_other _ _ _ _ e).trans h0⟩
 dm:=fun r0 h0=>by
  by_cases e:r=r0
  ·subst e;rw [hr] at h0;cases h0
  ·exact ⟨upd_other _ _ _ _ e,(upd_other _ _ _ _ e).trans h0⟩
 arr:=fun r0 T0 cs0 _ h0=>by
  by_cases e:r=r0
  ·subst e;rw [upd_same] at h0;cases h0
   exact ⟨cs,hr,(upd_same _ _ _).trans hf.symm⟩
  ·rw [upd_other _ _ _ _ e] at h0
   exact ⟨cs0,h0,upd_other _ _ _ _ e⟩
theorem HStep.ofSetA {c:Cx} {H:Hp} {U:Nat→Prop} {r T:Nat} {cs cs':List V} (hr:H r=some (.arr T cs)):HStep c H U c (upd H r (.arr T cs')) U where
 hU:=fun _ h=>h
 hy:=rfl
 hA:=fun _ h=>h
 var:=fun r0 T0 cs0 h0=>by
  by_cases e:r=r0
  ·subst e;rw [hr] at h0;cases h0
  ·exact ⟨rfl,cs0,(upd_other _ _ _ _ e).trans h0⟩
 row:=fun r0 T0 es xs _ h0=>by
  by_cases e:r=r0
  ·subst e;rw [upd_same] at h0;cases h0
  ·rw [upd_other _ _ _ _ e] at h0;exact ⟨xs,h0,Nat.le_refl _,fun _=>rfl⟩
 mp:=fun r0 es h0=>by
  by_cases e:r=r0
  ·subst e;rw [hr] at h0;cases h0
  ·exact ⟨rfl,es,(upd_other _ _ _ _ e).trans h0⟩
 dm:=fun r0 h0=>by
  by_cases e:r=r0
  ·subst e;rw [hr] at h0;cases h0
  ·exact ⟨rfl,(upd_other _ _ _ _ e).trans h0⟩
 arr:=fun r0 T0 cs0 _ h0=>by
  by_cases e:r=r0
  ·subst e;rw [upd_same] at h0;cases h0;exact ⟨cs,hr,rfl⟩
  ·rw [upd_other _ _ _ _ e] at h0;exact ⟨cs0,h0,rfl⟩
section
variable {G:Gl}
theorem HRel.retellA {c0 c:Cx} {H0 H:Hp} {U:Nat→Prop} {fr:Fr} {w:World} (h00:HRel G c0 H0 U fr w) (h:HRel G c H U fr w) {r T:Nat} {cs cs':List V} (hr0:H0 r=some (.arr T cs)) (hr:H r=some (.arr T cs)) (hfm:c0.fm r=c.fm r) (hl:cs'.length=cs.length)
  (hc:∀ (j:Nat) (x x':V) (cv:Value),cs[j]?=some x→cs'[j]?=some x'→VRel c0 H0 U w x cv→VRel c H U w x' cv):HRel G c (upd H r (.arr T cs')) U fr w:=by
 have hs:HStep c H U c (upd H r (.arr T cs')) U:=HStep.ofSetA hr
 refine ⟨fun r0 b h0=>?_,fun r0 b h0=>?_,fun r0 r1 b0 b1 g m m' h0 h1 f0 f1=>?_,fun r0 b g m h0 f0=>?_,fun r0 b g m h0 f0=>?_,h.AO,h.Alt,h.Olt,h.fr,h.gl⟩
 ·by_cases e:r=r0
  ·subst e;exact h.lt _ _ hr
  ·rw [upd_other _ _ _ _ e] at h0;exact h.lt _ _ h0
 ·by_cases e:r=r0
  ·subst e
   rw [upd_same] at h0;cases h0
   rcases h00.pl _ _ hr0 with ⟨g,m,hf,cur,h1,h2,h3⟩ | ⟨_,hu⟩
   ·refine .inl ⟨g,m,hfm.symm.trans hf,cur,h1,by omega,fun j x cv hx hcv=>?_⟩
    have hlt:=(List.getElem?_eq_some_iff.1 hx).1
    obtain ⟨h4,h5⟩:=h3 j _ cv (List.getElem?_eq_getElem (by omega)) hcv
    exact ⟨(hc j _ x cv (List.getElem?_eq_getElem (by omega)) hx h4).mono (fun _ _=>rfl) hs,h5⟩
   ·cases hu
  ·rw [upd_other _ _ _ _ e] at h0
   exact (h.pl _ _ h0).imp (fun ⟨g,m,hf,hB⟩=>⟨g,m,hf,hB.mono rfl (fun _ _=>rfl) hs⟩) id
 all_goals
  have key:∀ r0 b,upd H r (.arr T cs') r0=some b→∃ b',H r0=some b':=fun r0 b h0=>by
   by_cases e:r=r0
   ·subst e;exact ⟨_,hr⟩
   ·rw [upd_other _ _ _ _ e] at h0;exact ⟨_,h0⟩
 ·obtain ⟨_,h2⟩:=key _ _ h0
  obtain ⟨_,h3⟩:=key _ _ h1
  exact h.inj _ _ _ _ _ _ _ h2 h3 f0 f1
 ·obtain ⟨_,h2⟩:=key _ _ h0
  exact h.nA _ _ _ _ h2 f0
 ·obtain ⟨_,h2⟩:=key _ _ h0
  exact h.nO _ _ _ _ h2 f0
end
section
variable {P:Program} {G:Gl} {nt:Nat}
theorem s_bslA {T es n:Nat} {z:List D} {parts:List (Nat×Nat×Opd)} {vs out:List V} {nm:Nat} {fr:Fr} (hf:fillV ((repD n z).map .d) (plOf parts) vs=some out) (hl:(opOf parts).length=vs.length) (h0:0<n) (hn:n≤maxLen) :
  LStp P G nt (.bsl T es n z parts) ((opOf parts).zip vs) [] (.asl nm n) ⟨[(nm,.arr T out)],[nm]⟩ fr fr:=by
 intro U E H o F c a w next Q ht hF hR hE hH hnw k
 generalize hop:o.op=op at ht
 cases ht with
 | @bsl t e n0 j zv _ ps _ ht hj hz hs hnl hj0 hzs hp=>
  obtain ⟨p1,p2,p3⟩:=trParts_ok hR hp (Evs.unzip hl hE)
  obtain ⟨hzl,hzr⟩:=trDs_ok hs
  have hzsz:zv.cells.size=j.size:=by simpa [hzs] using hzl
  have hinit:CellsRel c H U w ((repD n z).map .d) ((Array.range (n*j.size)).map (zv.cells[· % zv.cells.size]!)):=by
   refine ⟨by simp [repD_len,hzs],fun i x cv hx hcv=>?_⟩
   rw [List.getElem?_map,repD_get z (by omega)] at hx
   by_cases hi:i<n*z.length
   ·rw [if_pos hi] at hx
    simp only [Option.map_eq_some_iff] at hx
    obtain ⟨y,hy,rfl⟩:=hx
    rw [hzs] at hi
    rw [Array.getElem?_map,Array.getElem?_eq_getElem (by simpa using hi)] at hcv
    simp only [Array.getElem_range,Option.map_some,Option.some.injEq] at hcv
    have hlt:i % zv.cells.size<zv.cells.size:=Nat.mod_lt _ (by omega)
    rw [getElem!_pos zv.cells (i % zv.cells.size) hlt] at hcv
    have hd:=hzr c.A w (i % z.length) y cv hy (by
     rw [hzs,← hzsz,Array.getElem?_toList,Array.getElem?_eq_getElem hlt,hcv])
    exact ⟨.d _ _ hd,hd.oneCell⟩
   ·rw [if_neg hi] at hx;cases hx
  have hpl:(ps.toList.map fun p=>(p.1,a.eval p.2)).map (fun p=>some (p.1*j.size,j.size))=(plOf parts).map some:=by
   rw [← p1,List.map_map];rfl
  obtain ⟨cur',f1,f2⟩:=fill_ok (place:=fun i=>some (i*j.size,j.size)) hinit hpl (by simpa using p2) p3 hf
  obtain ⟨hst,hR',hx⟩:=hR.new nm n (.arr T out) (.cells cur' T) (hnw nm (by simp)) (fun hs hA=>⟨cur',heap_alloc_at _ _,f2.1,fun j x cv hx hcv=>let ⟨p,q⟩:=f2.2 j x cv hx hcv;⟨p.mono hA hs,q⟩⟩)
  refine wp_value hF (cv:=.slice (some ⟨w.heap.size,0,none⟩) n n) (by simp [hop]) ?_ (k _ _ (w.alloc (.cells cur' T)) hst hR' ?_ hx)
  ·have hps:(ps.map fun x=>(x.1,a.eval x.2)).toList=ps.toList.map fun p=>(p.1,a.eval p.2):=by simp
   have hgt:¬ n*j.size > 2 ^ 24:=by omega
   have h0':¬ n*j.size=0:=fun e=>by rcases Nat.mul_eq_zero.1 e with h | h<;>omega
   simp only [execOp,hop,Instr.buildSlice,run_underlying ht,Sem.run_bind,Result.andThen_ok,run_sizeOf hj,hps,hgt,if_false]
   simp only [h0',if_false,Sem.run_bind,run_zeroValue hj hz,Result.andThen_ok,Sem.run_pure,f1]
   simp [newRow]
  ·exact .asl nm n _ (.inr (by simp)) hn (fun T' cs' h=>⟨w.heap.size,n,upd_same _ _ _,rfl⟩)
theorem s_iaAS {es:Nat} {x i:Opd} {r n:Nat} {k:IntKind} {iz:Int} {T:Nat} {cs:List V} {fr:Fr} (h0:0≤iz) (hi:iz.toNat<n):LStp P G nt (.iaS es x i) [(x,.asl r n),(i,.d (.int k iz))] [(r,.arr T cs)] (.aptr r (iz.toNat*es)) ⟨[],[]⟩ fr fr:=by
 refine .pure fun U E H o c ac w ht hR hE hH=>?_
 generalize hop:o.op=op at ht
 cases ht with
 | @iaS t e j xo io _ _ ht hj h1 h2=>
  have e1:=ev_ok hR h1 hE.1
  have e2:=(ev_ok hR h2 hE.2.1).int_inv
  generalize hav:ac.eval xo=av at e1
  cases e1 with
  | asl _ _ ad hu hb hp=>
   obtain ⟨g,m,hf,rfl⟩:=hp T cs hH.1
   refine ⟨by simp,.pointer (some ⟨g,iz.toNat*j.size,none⟩),?_,.aptr r _ _ hu fun T' cs' hx=>⟨g,m,hf,rfl⟩⟩
   have hlt:iz<(n:Int):=by omega
   simp [execOp,hop,hav,e2,Instr.indexAt,asIntOf,run_underlying ht,h0,hlt,run_sizeOf hj,add_none]
theorem s_pickB {x a b:Opd} {q:Bool} {fr:Fr}:LStp P G nt (.pick x a b) [(x,.d (.bool q)),(a,.d (.bool true)),(b,.d (.bool false))] [] (.d (.bool q)) ⟨[],[]⟩ fr fr:=by
 refine .pure fun U E H o c ac w ht hR hE hH=>?_
 generalize hop:o.op=op at ht
 cases ht with
 | pick h1 h2 h3=>
  have e:=(ev_ok hR h1 hE.1).bool_inv
  cases q with
  | true=>exact ⟨by simp,_,by simp only [execOp,hop,asBool,e,Sem.run_bind,Sem.run_pure,Result.andThen_ok];rfl,ev_ok hR h2 hE.2.1⟩
  | false=>exact ⟨by simp,_,by simp only [execOp,hop,asBool,e,Sem.run_bind,Sem.run_pure,Result.andThen_ok];rfl,ev_ok hR h3 hE.2.2.1⟩
theorem VRel.aptr_inv {c:Cx} {H:Hp} {U:Nat→Prop} {w:World} {r off:Nat} {cv:Value} {T:Nat} {cs:List V} (h:VRel c H U w (.aptr r off) cv) (hr:H r=some (.arr T cs)) :
  ∃ g m,c.fm r=some (g,m)∧cv=.pointer (some ⟨g,off,none⟩):=by
 cases h with
 | aptr _ _ ad hu hp=>
  obtain ⟨g,m,hf,rfl⟩:=hp T cs hr
  exact ⟨g,m,hf,rfl⟩
theorem HRel.arr {c:Cx} {H:Hp} {U:Nat→Prop} {fr:Fr} {w:World} (h:HRel G c H U fr w) {r T g m:Nat} {cs:List V} (hr:H r=some (.arr T cs)) (hf:c.fm r=some (g,m)) :
  ∃ cur:Array Value,w.heap[g]?=some (.cells cur T (0,0))∧cur.size=cs.length∧∀ (j:Nat) (x:V) (cv:Value),cs[j]?=some x→cur[j]?=some cv→VRel c H U w x cv∧cv.oneCell'=true:=by
 obtain ⟨g',m',hf',hB⟩:=(h.pl r _ hr).resolve_right (fun hn=>by rw [hf] at hn;cases hn.1)
 rw [hf] at hf';cases hf'
 exact hB
theorem s_loadAV {sz:Nat} {x:Opd} {r off T:Nat} {cs:List V} {u:V} {fr:Fr} (hu:cs[off]?=some u):LStp P G nt (.load false sz x) [(x,.aptr r off)] [(r,.arr T cs)] u ⟨[],[]⟩ fr fr:=by
 refine .pure fun U E H o c ac w ht hR hE hH=>?_
 generalize hop:o.op=op at ht
 generalize hag:false=ag at ht
 cases ht with
 | load hu' hi h1=>
  obtain ⟨g,m,hf,ha⟩:=(ev_ok hR h1 hE.1).aptr_inv hH.1
  obtain ⟨cur,hg,hl,hc⟩:=hR.h.arr hH.1 hf
  have hlt:=(List.getElem?_eq_some_iff.1 hu).1
  rw [← hl] at hlt
  refine ⟨by simp,cur[off],?_,(hc off u _ hu (Array.getElem?_eq_getElem hlt)).1⟩
  simp only [execOp,hop,ha,Sem.run_bind]
  rw [run_load_one hu' hag.symm (v:=cur[off]) (by rw [cell_at hg];exact Array.getElem?_eq_getElem hlt)];rfl
theorem s_storeA {sz:Nat} {x y:Opd} {r off T:Nat} {cs vs:List V} {u:V} {fr:Fr} (hu:cellsOf u=some vs) (hsz:vs.length=sz) (ho:off+sz≤cs.length) :
  LStp P G nt (.store sz x y) [(x,.aptr r off),(y,u)] [(r,.arr T cs)] .undef ⟨[(r,.arr T (spl cs off vs))],[]⟩ fr fr:=by
 intro U E H o F c a w next Q ht hF hR hE hH hn k
 generalize hop:o.op=op at ht
 cases ht with
 | @store t0 i0 _ _ _ _ hi h1 h2=>
  obtain ⟨g,m,hf,ha⟩:=(ev_ok hR h1 hE.1).aptr_inv hH.1
  obtain ⟨cur,hg,hl,hc⟩:=hR.h.arr hH.1 hf
  have e2:=ev_ok hR h2 hE.2.1
  generalize hb:a.eval _=bv at e2
  obtain ⟨c1,c2,c3⟩:=cells_ok e2 hu
  have hrun:=run_storeAt (P:=P) hi hg (o:=off) (v:=bv) (by omega) (by omega) c3
  generalize hnew:(cur.toList.take off++bv.cells.toList++cur.toList.drop (off+bv.cells.toList.length)).toArray=new at hrun
  have hs:HStep c H U (c.put r g m) (upd H r (.arr T (spl cs off vs))) U:=HStep.setArr hH.1 hf
  have hlen:new.size=(spl cs off vs).length:=by rw [← hnew];simp [spl];omega
  have hA:∀ g0,c.A g0→(w.setRow g new).heap[g0]?=w.heap[g0]?:=fun g0 h0=>setRow_other w g g0 new (fun e=>hR.h.nA _ _ _ _ hH.1 hf (e▸h0))
  have hB:BRel (c.put r g m) (upd H r (.arr T (spl cs off vs))) U (w.setRow g new) g m (.arr T (spl cs off vs)):=by
   refine ⟨new,setRow_heap w g cur new T (0,0) hg,hlen,fun j x cv hx hcv=>?_⟩
   have key:VRel c H U w x cv∧cv.oneCell'=true:=by
    have hcv':(cur.toList.take off++bv.cells.toList++cur.toList.drop (off+bv.cells.toList.length))[j]?=some cv:=by rw [← hnew] at hcv;simpa using hcv
    rw [spl,List.append_assoc] at hx
    rw [List.append_assoc] at hcv'
    have l1:(cur.toList.take off).length=off:=by simp;omega
    have l2:(cs.take off).length=off:=by simp;omega
    have l3:bv.cells.toList.length=vs.length:=by simpa using c1
    by_cases hj:j<off
    ·rw [List.getElem?_append_left (by omega),List.getElem?_take,if_pos hj] at hx hcv'
     exact hc j x cv hx (by simpa using hcv')
    ·rw [List.getElem?_append_right (by omega)] at hx hcv'
     rw [l1] at hcv';rw [l2] at hx
     by_cases hj2:j - off<vs.length
     ·rw [List.getElem?_append_left (by omega)] at hx hcv'
      exact c2 _ x cv hx (by simpa using hcv')
     ·rw [List.getElem?_append_right (by omega),List.getElem?_drop] at hx hcv'
      rw [l3] at hcv'
      exact hc _ x cv hx (by simpa using hcv')
   exact ⟨key.1.mono hA hs,key.2⟩
  have hp:=hR.h.put (w':=w.setRow g new) r g m (.arr T (spl cs off vs)) hs rfl rfl rfl (by simp) (fun g0 hg0 hne=>setRow_other w g g0 new hne) (.inr ⟨_,m,hH.1,hf⟩) (hR.h.lt _ _ hH.1) hB
  have hu0:usOf ([]:List Nat) U=U:=usOf_nil U
  refine wp_skip' hF (by simp [hop]) (w':=w.setRow g new) ?_ (k (c.put r g m) undef _ ?_ ?_ .undef hp.2)
  ·simp only [execOp,hop,ha,hb,Sem.run_bind,hrun];rfl
  ·rw [hu0];exact hs
  ·rw [hu0];exact hR.step hs hp.1 hp.2
theorem s_faddrA {off0:Nat} {x:Opd} {r off:Nat} {fr:Fr}:LStp P G nt (.faddr off0 x) [(x,.aptr r off)] [] (.aptr r (off+off0)) ⟨[],[]⟩ fr fr:=by
 refine .pure fun U E H o c ac w ht hR hE hH=>?_
 generalize hop:o.op=op at ht
 cases ht with
 | @faddr _ _ _ f0 _ _ _ ht hf hj hz h1=>
  have e1:=ev_ok hR h1 hE.1
  generalize ha:ac.eval _=av at e1
  cases e1 with
  | aptr _ _ ad hr h=>
   refine ⟨by simp,.pointer (some (ad.add f0.offset)),?_,.aptr r _ _ hr fun T cs hx=>?_⟩
   ·simp [execOp,hop,ha,Instr.fieldAt,run_underlying ht,hf,Instr.sureAddr,fieldPlace,run_sizeOf hj,hz]
   ·obtain ⟨g,m,hfm,rfl⟩:=h T cs hx
    exact ⟨g,m,hfm,by rw [add_none]⟩
theorem HStep.fzA (c:Cx) (H:Hp) (U:Nat→Prop) {r T:Nat} {cs:List V} (hr:H r=some (.arr T cs)):HStep c H U (c.fz r) (upd H r .dead) U where
 hU:=fun _ h=>h
 hy:=rfl
 hA:=fun _ h=>.inl h
 var:=fun r0 T0 cs1 h0=>by
  by_cases e:r=r0
  ·subst e;rw [hr] at h0;cases h0
  ·exact ⟨by simp [Cx.fz,e],cs1,(upd_other _ _ _ _ e).trans h0⟩
 row:=fun r0 T0 es0 xs0 _ h0=>by
  by_cases e:r=r0
  ·subst e;rw [upd_same] at h0;cases h0
  ·rw [upd_other _ _ _ _ e] at h0;exact ⟨xs0,h0,Nat.le_refl _,fun _=>by simp [Cx.fz,e]⟩
 mp:=fun r0 es0 h0=>by
  by_cases e:r=r0
  ·subst e;rw [hr] at h0;cases h0
  ·exact ⟨by simp [Cx.fz,e],es0,(upd_other _ _ _ _ e).trans h0⟩
 dm:=fun r0 h0=>by
  by_cases e:r=r0
  ·subst e;rw [hr] at h0;cases h0
  ·exact ⟨by simp [Cx.fz,e],(upd_other _ _ _ _ e).trans h0⟩
 arr:=fun r0 T0 cs0 _ h0=>by
  by_cases e:r=r0
  ·subst e;rw [upd_same] at h0;cases h0
  ·rw [upd_other _ _ _ _ e] at h0;exact ⟨cs0,h0,by simp [Cx.fz,e]⟩
theorem HRel.fzA {c:Cx} {H:Hp} {U:Nat→Prop} {fr:Fr} {w:World} (h:HRel G c H U fr w) {r T:Nat} {cs:List V} (hr:H r=some (.arr T cs)):HRel G (c.fz r) (upd H r .dead) U fr w:=by
 have hs:=HStep.fzA c H U hr
 have old:∀ r0 b,r≠r0→upd H r .dead r0=some b→H r0=some b:=fun r0 b e h0=>by rwa [upd_other _ _ _ _ e] at h0
 have ne:∀ r0 g m,(c.fz r).fm r0=some (g,m)→r≠r0∧c.fm r0=some (g,m):=fun r0 g m h0=>by
  by_cases e:r=r0
  ·simp [Cx.fz,e] at h0
  ·exact ⟨e,by simpa [Cx.fz,e] using h0⟩
 refine ⟨fun r0 b h0=>?_,fun r0 b h0=>?_,fun r0 r1 b0 b1 g m m' h0 h1 f0 f1=>?_,fun r0 b g m h0 f0=>?_,fun r0 b g m h0 f0=>?_,fun g hg=>?_,fun g hg=>?_,h.Olt,fr.mono _ _ _ _ _ _ h.fr (fun _ h=>.inl h) (fun _ _=>rfl),fun g row hg=>?_⟩
 ·by_cases e:r=r0
  ·subst e;exact h.lt _ _ hr
  ·exact h.lt _ _ (old _ _ e h0)
 ·by_cases e:r=r0
  ·subst e;rw [upd_same] at h0;cases h0;exact .inr ⟨by simp [Cx.fz],.dead⟩
  ·rcases h.pl _ _ (old _ _ e h0) with ⟨g,m,hf,hB⟩ | ⟨hf,hu⟩
   ·exact .inl ⟨g,m,by simpa [Cx.fz,e] using hf,hB.mono rfl (fun _ _=>rfl) hs⟩
   ·exact .inr ⟨by simpa [Cx.fz,e] using hf,hu⟩
 ·obtain ⟨e0,f0⟩:=ne _ _ _ f0
  obtain ⟨e1,f1⟩:=ne _ _ _ f1
  exact h.inj _ _ _ _ _ _ _ (old _ _ e0 h0) (old _ _ e1 h1) f0 f1
 ·obtain ⟨e0,f0⟩:=ne _ _ _ f0
  rintro (ha | ⟨m',hm⟩)
  ·exact h.nA _ _ _ _ (old _ _ e0 h0) f0 ha
  ·exact e0 (h.inj _ _ _ _ _ _ _ hr (old _ _ e0 h0) hm f0)
 ·obtain ⟨e0,f0⟩:=ne _ _ _ f0
  exact h.nO _ _ _ _ (old _ _ e0 h0) f0
 ·rcases hg with ha | ⟨m',hm⟩
  ·exact h.AO g ha
  ·exact h.nO _ _ _ _ hr hm
 ·rcases hg with ha | ⟨m',hm⟩
  ·exact h.Alt g ha
  ·rcases h.pl _ _ hr with ⟨g0,m0,hf,cur,hc,_⟩ | ⟨hf,_⟩
   ·rw [hm] at hf;cases hf;exact (Array.getElem?_eq_some_iff.1 hc).1
   ·rw [hm] at hf;cases hf
 ·obtain ⟨ha,hc⟩:=h.gl g row hg
  exact ⟨.inl ha,fun j x hx=>let ⟨cv,h1,h2⟩:=hc j x hx;⟨cv,h1,h2.mono (fun _ h=>.inl h) (fun _ _=>rfl)⟩⟩
theorem VRel.fzA {c:Cx} {H:Hp} {U:Nat→Prop} {fr:Fr} {w:World} (h:HRel G c H U fr w) {r n T es:Nat} {xs:List (List D)} (hr:H r=some (.arr T (flatV xs))) (hl:xs.length=n) (hes:∀ (i:Nat) row,xs[i]?=some row→row.length=es) {cv:Value} (hv:VRel c H U w (.asl r n) cv):VRel (c.fz r) (upd H r .dead) U w (.d (.sl es xs)) cv:=by
 subst hl
 cases hv with
 | asl _ _ ad hu hb hp=>
  obtain ⟨g,m,hf,rfl⟩:=hp _ _ hr
  obtain ⟨g',m',hf',cur,hg,hc,hd⟩:=(h.pl r _ hr).resolve_right (fun hn=>by rw [hf] at hn;cases hn.1)
  rw [hf] at hf';cases hf'
  have hlen:=flatV_len xs hes
  refine .d _ _ (.sl es xs _ _ (fun i j=>(cur[i*es+j]?).getD .nilFunc) (Nat.le_refl _) hb (fun _=>⟨g,0,rfl,.inr ⟨m,hf⟩⟩) hes (fun g0 o0 e i j hi hj=>?_) (fun i j row x hi hx=>?_))
  ·cases e
   have h2:(i+1)*es≤xs.length*es:=Nat.mul_le_mul_right _ hi
   rw [Nat.add_mul] at h2
   have hlt:i*es+j<cur.size:=by rw [hc,hlen];omega
   rw [cell_at hg,Nat.zero_add,Array.getElem?_eq_getElem hlt];rfl
  ·have hgt:=flatV_get xs i j row x hes hi hx
   have hlt:i*es+j<cur.size:=by rw [hc];exact (List.getElem?_eq_some_iff.1 hgt).1
   have:=(hd _ _ cur[i*es+j] hgt (Array.getElem?_eq_getElem hlt)).1
   rw [Array.getElem?_eq_getElem hlt]
   cases this with | d _ _ hdd=>exact hdd.mono (fun _ h=>.inl h) (fun _ _=>rfl)
theorem Can.fzHA (q off r:Nat) {n T T' es:Nat} {cs:List V} {xs:List (List D)} {σ:St} (hq:look σ.heap q=some (.arr T' cs)) (hc:cs[off]?=some (.own r n)) (hr:look σ.heap r=some (.row T es xs)) (hl:xs.length=n)
  : Can G nt σ { env:=σ.env,heap:=(q,.arr T' (cs.set off (.d (.sl es xs))))::(r,.dead)::σ.heap,nx:=σ.nx,fr:=σ.fr,dfs:=σ.dfs,base:=σ.base }:=by
 have hne:r≠q:=fun e=>by subst e;rw [hr] at hq;cases hq
 have hq':∀ H:Hp,H q=some (.arr T' cs)→upd H r .dead q=some (.arr T' cs):=fun H h=>(upd_other _ _ _ _ hne).trans h
 have hst:∀ c:Cx,HStep c (look σ.heap) (fun r=>r<σ.nx) (c.fz r) (upd (upd (look σ.heap) r .dead) q (.arr T' (cs.set off (.d (.sl es xs))))) (fun r=>r<σ.nx):=fun c=>
  (HStep.fz c (look σ.heap) (fun r=>r<σ.nx) hr).trans (HStep.ofSetA (hq' _ hq))
 refine Can.fzCore (σ':={ env:=σ.env,heap:=(q,.arr T' (cs.set off (.d (.sl es xs))))::(r,.dead)::σ.heap,nx:=σ.nx,fr:=σ.fr,dfs:=σ.dfs,base:=σ.base }) hr ⟨rfl,rfl,rfl,rfl⟩ (fun c a w hR u v hv=>?_) (fun c w h=>?_) (fun r0 b h0=>?_)
 ·simp only at hv ⊢
  rw [look_upd,look_upd]
  obtain ⟨cv,h1,h2⟩:=hR.R.env _ _ hv
  exact ⟨cv,h1,h2.mono (fun _ _=>rfl) (hst c)⟩
 ·simp only
  rw [look_upd,look_upd]
  refine ⟨HRel.retellA h (h.fz hr) hq (hq' _ hq) (by simp [Cx.fz,hne]) (by simp) fun j x x' cv hx hx' hv=>?_,hst c⟩
  rw [List.getElem?_set] at hx'
  split at hx'
  ·rename_i e;subst e
   split at hx'<;>cases hx'
   rw [hc] at hx;cases hx
   exact hv.fz h hr hl
  ·rw [hx] at hx';cases hx';exact hv.mono (fun _ _=>rfl) (HStep.fz c _ _ hr)
 ·simp only at h0
  rw [look_cons] at h0
  split at h0
  ·rename_i e;subst e;exact ⟨_,hq⟩
  ·rw [look_cons] at h0
   split at h0
   ·rename_i e;subst e;exact ⟨_,hr⟩
   ·exact ⟨_,h0⟩
theorem Can.wkHA (r off es:Nat) {T:Nat} {cs:List V} {v:V} {σ:St} (hr:look σ.heap r=some (.arr T cs)) (hc:cs[off]?=some v)
  : Can G nt σ { env:=σ.env,heap:=(r,.arr T (cs.set off (wk1 es v)))::σ.heap,nx:=σ.nx,fr:=σ.fr,dfs:=σ.dfs,base:=σ.base }:=by
 intro c a w hR
 have hs:HStep c (look σ.heap) (fun r=>r<σ.nx) c (look ((r,.arr T (cs.set off (Go.Abs.wk1 es v)))::σ.heap)) (fun r=>r<σ.nx):=by rw [look_upd];exact HStep.ofSetA hr
 have hR':RelS G nt c { env:=σ.env,heap:=(r,.arr T (cs.set off (Go.Abs.wk1 es v)))::σ.heap,nx:=σ.nx,fr:=σ.fr,dfs:=σ.dfs,base:=σ.base } a w:=by
  refine ⟨⟨hR.R.nt,fun u x hx=>?_,?_⟩,hR.df.mono hs,hR.base⟩
  ·obtain ⟨cv,h1,h2⟩:=hR.R.env _ _ hx
   exact ⟨cv,h1,h2.mono (fun _ _=>rfl) hs⟩
  ·simp only
   rw [look_upd]
   refine HRel.retellA hR.R.h hR.R.h hr hr rfl (by simp) fun j x x' cv hx hx' hv=>?_
   rw [List.getElem?_set] at hx'
   split at hx'
   ·rename_i e;subst e
    split at hx'<;>cases hx'
    rw [hc] at hx;cases hx
    exact hv.wk1 es
   ·rw [hx] at hx';cases hx';exact hv
 have hW:Went c σ w c { env:=σ.env,heap:=(r,.arr T (cs.set off (Go.Abs.wk1 es v)))::σ.heap,nx:=σ.nx,fr:=σ.fr,dfs:=σ.dfs,base:=σ.base } w:=by
  refine ⟨⟨rfl,rfl,rfl,Nat.le_refl _,rfl,fun _ _ _ _=>rfl,fun r0 b g m h0 f0=>?_,fun _ h=>h,fun _ h=>.inl h,fun _ h=>.inr (.inl h)⟩,HB.of hR.base hs,rfl⟩
  simp only at h0
  rw [look_cons] at h0
  split at h0
  ·rename_i e;subst e;exact .inr (.inr ⟨r,_,m,hr,f0⟩)
  ·exact .inr (.inr ⟨r0,b,m,h0,f0⟩)
 exact ⟨c,hR',hW⟩
theorem Can.fzAA (q off r:Nat) {n T T' es:Nat} {cs:List V} {xs:List (List D)} {σ:St} (hq:look σ.heap q=some (.arr T' cs)) (hc:cs[off]?=some (.asl r n)) (hne:Nat.beq r q=false) (hr:look σ.heap r=some (.arr T (flatV xs))) (hl:xs.length=n) (hes:∀ (i:Nat) row,xs[i]?=some row→row.length=es)
  : Can G nt σ { env:=σ.env,heap:=(q,.arr T' (cs.set off (.d (.sl es xs))))::(r,.dead)::σ.heap,nx:=σ.nx,fr:=σ.fr,dfs:=σ.dfs,base:=σ.base }:=by
 have hne:r≠q:=fun e=>by subst e;rw [Nat.beq_refl] at hne;cases hne
 have hq':∀ H:Hp,H q=some (.arr T' cs)→upd H r .dead q=some (.arr T' cs):=fun H h=>(upd_other _ _ _ _ hne).trans h
 have hst:∀ c:Cx,HStep c (look σ.heap) (fun r=>r<σ.nx) (c.fz r) (upd (upd (look σ.heap) r .dead) q (.arr T' (cs.set off (.d (.sl es xs))))) (fun r=>r<σ.nx):=fun c=>
  (HStep.fzA c (look σ.heap) (fun r=>r<σ.nx) hr).trans (HStep.ofSetA (hq' _ hq))
 refine Can.fzCore (σ':={ env:=σ.env,heap:=(q,.arr T' (cs.set off (.d (.sl es xs))))::(r,.dead)::σ.heap,nx:=σ.nx,fr:=σ.fr,dfs:=σ.dfs,base:=σ.base }) hr ⟨rfl,rfl,rfl,rfl⟩ (fun c a w hR u v hv=>?_) (fun c w h=>?_) (fun r0 b h0=>?_)
 ·simp only at hv ⊢
  rw [look_upd,look_upd]
  obtain ⟨cv,h1,h2⟩:=hR.R.env _ _ hv
  exact ⟨cv,h1,h2.mono (fun _ _=>rfl) (hst c)⟩
 ·simp only
  rw [look_upd,look_upd]
  refine ⟨HRel.retellA h (h.fzA hr) hq (hq' _ hq) (by simp [Cx.fz,hne]) (by simp) fun j x x' cv hx hx' hv=>?_,hst c⟩
  rw [List.getElem?_set] at hx'
  split at hx'
  ·rename_i e;subst e
   split at hx'<;>cases hx'
   rw [hc] at hx;cases hx
   exact hv.fzA h hr hl hes
  ·rw [hx] at hx';cases hx';exact hv.mono (fun _ _=>rfl) (HStep.fzA c _ _ hr)
 ·simp only at h0
  rw [look_cons] at h0
  split at h0
  ·rename_i e;subst e;exact ⟨_,hq⟩
  ·rw [look_cons] at h0
   split at h0
   ·rename_i e;subst e;exact ⟨_,hr⟩
   ·exact ⟨_,h0⟩
theorem Can.fzAE (t r:Nat) {n T es:Nat} {xs:List (List D)} {σ:St} (ht:look σ.env t=some (.asl r n)) (hr:look σ.heap r=some (.arr T (flatV xs))) (hl:xs.length=n) (hes:∀ (i:Nat) row,xs[i]?=some row→row.length=es)
  : Can G nt σ { env:=(t,.d (.sl es xs))::σ.env,heap:=(r,.dead)::σ.heap,nx:=σ.nx,fr:=σ.fr,dfs:=σ.dfs,base:=σ.base }:=by
 refine Can.fzCore (σ':={ env:=(t,.d (.sl es xs))::σ.env,heap:=(r,.dead)::σ.heap,nx:=σ.nx,fr:=σ.fr,dfs:=σ.dfs,base:=σ.base }) hr ⟨rfl,rfl,rfl,rfl⟩ (fun c a w hR u v hv=>?_) (fun c w h=>?_) (fun r0 b h0=>?_)
 ·simp only at hv ⊢
  rw [look_upd]
  rw [look_cons] at hv
  split at hv
  ·rename_i e;subst e;cases hv
   obtain ⟨cv,h1,h2⟩:=hR.R.env _ _ ht
   exact ⟨cv,h1,h2.fzA hR.R.h hr hl hes⟩
  ·obtain ⟨cv,h1,h2⟩:=hR.R.env _ _ hv
   exact ⟨cv,h1,h2.mono (fun _ _=>rfl) (HStep.fzA c _ _ hr)⟩
 ·simp only;rw [look_upd];exact ⟨h.fzA hr,HStep.fzA c _ _ hr⟩
 ·simp only at h0
  rw [look_cons] at h0
  split at h0
  ·rename_i e;subst e;exact ⟨_,hr⟩
  ·exact ⟨_,h0⟩
theorem mlen {α:Type} {f:α→List D} {es:Nat} (hf:∀ a,(f a).length=es) {xs:List α}:∀ (i:Nat) row,(List.map f xs)[i]?=some row→row.length=es:=fun i row hi=>by
 rw [List.getElem?_map,Option.map_eq_some_iff] at hi
 obtain ⟨a,_,rfl⟩:=hi
 exact hf a
end
section
variable {P:Program} {G:Gl} {nt:Nat} {F:Fence} {K:St→List SD→Prop} {rest:List IOper} {σ:St} {sds:List SD} {g:Option (Nat×Bool)} {aft:List Nat}
theorem r_bslA {t T es n:Nat} {z:List D} {parts:List (Nat×Nat×Opd)} {vs out:List V} (hg:Wants σ g) (hx:evs G (look σ.env) (opOf parts)=some vs) (hf:fillV ((repD n z).map .d) (plOf parts) vs=some out) (hl:Nat.beq (opOf parts).length vs.length=true) (h0:Nat.blt 0 n=true) (hn:Nat.ble n maxLen=true)
  (k:RunC P G nt K rest (σ.nw t (.asl σ.nx n) (.arr T out)) (sds++[sdOf g ((opOf parts).zip vs) [] ⟨[(σ.nx,.arr T out)],[σ.nx]⟩])):RunC P G nt K (⟨some t,g,.bsl T es n z parts,aft⟩::rest) σ sds:=
 .nw1 (s_bslA hf (Nat.eq_of_beq_eq_true hl) (Nat.le_of_ble_eq_true h0) (Nat.le_of_ble_eq_true hn)) hg (Evs.zip hx) trivial k
theorem r_iaAS {d:Option Nat} {es:Nat} {x i:Opd} {r n:Nat} {k0:IntKind} {iz:Int} {T:Nat} {cs:List V} (hg:Wants σ g) (hx:ev G (look σ.env) x=some (.asl r n)) (hi0:ev G (look σ.env) i=some (.d (.int k0 iz))) (hr:look σ.heap r=some (.arr T cs)) (h0:0≤iz) (hi:iz.toNat<n)
  (k:RunC P G nt K rest (σ.put d (.aptr r (iz.toNat*es))) (sds++[sdOf g [(x,.asl r n),(i,.d (.int k0 iz))] [(r,.arr T cs)] ⟨[],[]⟩])):RunC P G nt K (⟨d,g,.iaS es x i,aft⟩::rest) σ sds:=
 .val (s_iaAS h0 hi) hg ⟨hx,hi0,trivial⟩ ⟨hr,trivial⟩ k
theorem r_pickB {d:Option Nat} {x a b:Opd} {q:Bool} (hg:Wants σ g) (hx:ev G (look σ.env) x=some (.d (.bool q))) (ha:ev G (look σ.env) a=some (.d (.bool true))) (hb:ev G (look σ.env) b=some (.d (.bool false)))
  (k:RunC P G nt K rest (σ.put d (.d (.bool q))) (sds++[sdOf g [(x,.d (.bool q)),(a,.d (.bool true)),(b,.d (.bool false))] [] ⟨[],[]⟩])):RunC P G nt K (⟨d,g,.pick x a b,aft⟩::rest) σ sds:=
 .val s_pickB hg ⟨hx,ha,hb,trivial⟩ trivial k
theorem r_faddrA {d:Option Nat} {off0:Nat} {x:Opd} {r off:Nat} (hg:Wants σ g) (hx:ev G (look σ.env) x=some (.aptr r off))
  (k:RunC P G nt K rest (σ.put d (.aptr r (off+off0))) (sds++[sdOf g [(x,.aptr r off)] [] ⟨[],[]⟩])):RunC P G nt K (⟨d,g,.faddr off0 x,aft⟩::rest) σ sds:=
 .val s_faddrA hg ⟨hx,trivial⟩ trivial k
theorem r_loadAV {d:Option Nat} {sz:Nat} {x:Opd} {r off T:Nat} {cs:List V} {u:V} (hg:Wants σ g) (hx:ev G (look σ.env) x=some (.aptr r off)) (hr:look σ.heap r=some (.arr T cs)) (hu:cs[off]?=some u)
  (k:RunC P G nt K rest (σ.put d u) (sds++[sdOf g [(x,.aptr r off)] [(r,.arr T cs)] ⟨[],[]⟩])):RunC P G nt K (⟨d,g,.load false sz x,aft⟩::rest) σ sds:=
 .val (s_loadAV hu) hg ⟨hx,trivial⟩ ⟨hr,trivial⟩ k
theorem r_storeA {sz:Nat} {x y:Opd} {r off T:Nat} {cs vs:List V} {u:V} (hg:Wants σ g) (hx:ev G (look σ.env) x=some (.aptr r off)) (hy:ev G (look σ.env) y=some u) (hr:look σ.heap r=some (.arr T cs)) (hu:cellsOf u=some vs) (hsz:Nat.beq vs.length sz=true) (ho:Nat.ble (off+sz) cs.length=true)
  (k:RunC P G nt K rest (σ.tn r (.arr T (spl cs off vs))) (sds++[sdOf g [(x,.aptr r off),(y,u)] [(r,.arr T cs)] ⟨[(r,.arr T (spl cs off vs))],[]⟩])):RunC P G nt K (⟨none,g,.store sz x y,aft⟩::rest) σ sds:=
 .tn0 (s_storeA hu (Nat.eq_of_beq_eq_true hsz) (Nat.le_of_ble_eq_true ho)) hg ⟨hx,hy,trivial⟩ ⟨hr,trivial⟩ k
end
end Go.Abs
