/- The framework: what a piece of code does to told states, part 6. Conditions: none. -/
import Derived.Test.YtailndjnfdcolaaDoorFwe
import Derived.CallsIn
import Derived.OrdersIn
import Derived.Below
import Derived.Laws.World
import Derived.Laws.Cells
import Derived.Laws.Entries
import Derived.Laws.CopyRow
import Derived.IntWalk
import Derived.RangeFuncRecord
import Derived.RangeFuncLeaves
import Derived.KernelRfl
import Derived.Maps.AppendAt
import Derived.Laws.MakeOwn
import Derived.Laws.StructEq
import Derived.ChangeKeysEq
import Derived.MapKept
import Derived.ProofKit
import Derived.OpenShut
import Derived.LaidMore
import Derived.Lib.SliceRun
set_option linter.unusedVariables false
set_option linter.unusedSimpArgs false
namespace Go.Abs
open Go.ChangeShapes Go.WideShapes Go.ChangeAt Go.WideMaps Go.WideElems Go.RowKit
inductive Sp where
 | i (k:IntKind)
 | b
 | tx
 | sl (es:List Sp)
mutual
def Sp.fit:Sp→D→Prop
 | .i k,x=>∃ n,x=.int k n∧(Lit.int k n).wf=true
 | .b,x=>∃ c,x=.bool c
 | .tx,x=>∃ c:ByteArray,x=.str c∧c.size≤maxLen
 | .sl es,x=>∃ xs,x=.sl es.length xs∧xs.length≤maxLen∧∀ row,row∈xs→fitL es row
def fitL:List Sp→List D→Prop
 | [],l=>l=[]
 | s::ss,l=>∃ x xs,l=x::xs∧s.fit x∧fitL ss xs
end
theorem fitL_len:∀ (ss:List Sp) (l:List D),fitL ss l→l.length=ss.length
 | [],l,h=>by rw [fitL] at h;subst h;rfl
 | s::ss,l,h=>by rw [fitL] at h;obtain ⟨x,xs,rfl,_,h⟩:=h;simp [fitL_len ss xs h]
theorem fitL_append:∀ (a b:List Sp) (l m:List D),fitL a l→fitL b m→fitL (a++b) (l++m)
 | [],b,l,m,h,k=>by rw [fitL] at h;subst h;exact k
 | s::ss,b,l,m,h,k=>by
  rw [fitL] at h;obtain ⟨x,xs,rfl,hx,h⟩:=h
  rw [List.cons_append,fitL]
  exact ⟨x,xs++m,rfl,hx,fitL_append ss b xs m h k⟩
def spFs (P:Program) (rec:TypeId→Option (List Sp)):List Field→Nat→Option (List Sp)
 | [],_=>some []
 | f::fs,o=>match rec f.type with
  | some l=>match spFs P rec fs (o+l.length) with
   | some ls=>bif Nat.beq f.offset o&&Nat.beq (P.cellsOf f.type) l.length then some (l++ls) else none
   | none=>none
  | none=>none
def spT (P:Program):Nat→TypeId→Option (List Sp)
 | 0,_=>none
 | d+1,t=>match P.underlying t with
  | some (.int k)=>some [.i k]
  | some .bool=>some [.b]
  | some .string=>some [.tx]
  | some (.slice e)=>match spT P d e with
   | some l=>bif Nat.beq (P.cellsOf e) l.length&&Nat.ble 1 l.length then some [.sl l] else none
   | none=>none
  | some (.struct fs)=>match spFs P (spT P d) fs.toList 0 with
   | some l=>bif Nat.beq (P.cellsOf t) l.length then some l else none
   | none=>none
  | some (.array n e)=>match spT P d e with
   | some l=>bif Nat.beq (P.cellsOf e) l.length&&Nat.beq (P.cellsOf t) (n*l.length) then some (List.replicate n l).flatten else none
   | none=>none
  | _=>none
def Rd (A:Nat→Prop) (w:World) (sp:List Sp) (cs:List Value):Prop:=
 ∃ xs,fitL sp xs∧cs.length=xs.length∧∀ (i:Nat) (x:D) (v:Value),xs[i]?=some x→cs[i]?=some v→DRel A w x v
theorem Rd.nil {A:Nat→Prop} {w:World}:Rd A w [] []:=⟨[],rfl,rfl,fun i x v h=>by simp at h⟩
theorem Rd.one {A:Nat→Prop} {w:World} {s:Sp} {x:D} {v:Value} (h:s.fit x) (k:DRel A w x v):Rd A w [s] [v]:=
 ⟨[x],by rw [fitL];exact ⟨x,[],rfl,h,rfl⟩,rfl,fun i y u hy hu=>by
  match i with
  | 0=>simp at hy hu;subst hy;subst hu;exact k
  | i+1=>simp at hy⟩
theorem Rd.append {A:Nat→Prop} {w:World} {a b:List Sp} {l m:List Value} (h:Rd A w a l) (k:Rd A w b m):Rd A w (a++b) (l++m):=by
 obtain ⟨xs,h1,h2,h3⟩:=h
 obtain ⟨ys,k1,k2,k3⟩:=k
 refine ⟨xs++ys,fitL_append _ _ _ _ h1 k1,by simp [h2,k2],fun i x v hx hv=>?_⟩
 rw [List.getElem?_append] at hx hv
 by_cases hi:i<xs.length
 ·rw [if_pos hi] at hx;rw [if_pos (by omega)] at hv;exact h3 i x v hx hv
 ·rw [if_neg hi] at hx;rw [if_neg (by omega),h2] at hv;exact k3 _ x v hx hv
section
variable {H:Type} {enc:TypeId×Value→H} {P:Program} {w:World} {spare:Nat→Bool} {held:Bool} {A:Nat→Prop}
theorem spFs_rd {rec:TypeId→Option (List Sp)} {n:Nat} (ih:∀ t sp cs x,rec t=some sp→DataW.trod enc P w 0 spare held n t cs=some x→Rd A w sp cs) (cs:List Value):∀ (fs:List Field) (o:Nat) (l:List Sp),spFs P rec fs o=some l →
  (∀ f,f∈fs→∃ x,DataW.trod enc P w 0 spare held n f.type ((cs.drop f.offset).take (P.cellsOf f.type))=some x)→cs.length=o+l.length→Rd A w l (cs.drop o)
 | [],o,l,h,hx,hl=>by
  simp only [spFs,Option.some.injEq] at h;subst h
  rw [List.drop_eq_nil_of_le (by simp at hl;omega)]
  exact Rd.nil
 | f::fs,o,l,h,hx,hl=>by
  rw [spFs] at h
  cases h1:rec f.type with
  | none=>simp [h1] at h
  | some l1=>
   cases h2:spFs P rec fs (o+l1.length) with
   | none=>simp [h1,h2] at h
   | some ls=>
    simp only [h1,h2] at h
    cases hb:(Nat.beq f.offset o&&Nat.beq (P.cellsOf f.type) l1.length) with
    | false=>simp [hb] at h
    | true=>
     simp only [hb,cond_true,Option.some.injEq] at h
     subst h
     rw [Bool.and_eq_true] at hb
     have e1:=Nat.eq_of_beq_eq_true hb.1
     have e2:=Nat.eq_of_beq_eq_true hb.2
     obtain ⟨x,hx1⟩:=hx f (by simp)
     rw [e1,e2] at hx1
     have r1:=ih _ _ _ _ h1 hx1
     simp at hl
     have r2:=spFs_rd ih cs fs (o+l1.length) ls h2 (fun g hg=>hx g (by simp [hg])) (by omega)
     have:=r1.append r2
     rwa [← List.drop_drop,List.take_append_drop] at this
theorem spA_rd {n:Nat} {e:TypeId} {l:List Sp} (ih:∀ cs x,DataW.trod enc P w 0 spare held n e cs=some x→Rd A w l cs) (cs:List Value) (k:Nat) (hk:∀ i,i<k→∃ x,DataW.trod enc P w 0 spare held n e ((cs.drop (i*l.length)).take l.length)=some x) :
  ∀ (j i:Nat),i+j=k→cs.length=k*l.length→Rd A w (List.replicate j l).flatten (cs.drop (i*l.length))
 | 0,i,h,hl=>by
  rw [List.drop_eq_nil_of_le (by rw [hl];simp at h;subst h;exact Nat.le_refl _)]
  exact Rd.nil
 | j+1,i,h,hl=>by
  obtain ⟨x,hx⟩:=hk i (by omega)
  have r1:=ih _ _ hx
  have r2:=spA_rd ih cs k hk j (i+1) (by omega) hl
  have:=r1.append r2
  rw [Nat.succ_mul,← List.drop_drop,List.take_append_drop] at this
  rwa [List.replicate_succ,List.flatten_cons]
theorem cell_lt {a:Addr} {v:Value} (h:w.cell? a=some v):a.block<w.heap.size∧a.spot=none:=by
 unfold World.cell? at h
 split at h
 ·rename_i c _ _ hc
  refine ⟨?_,?_⟩
  ·exact (Array.getElem?_eq_some_iff.1 hc).1
  ·cases hs:a.spot with
   | none=>rfl
   | some x=>simp [hs] at h
 ·cases h
theorem trod_rd (hA:∀ g,g<w.heap.size→A g):∀ (d:Nat) (t:TypeId) (sp:List Sp) (fuel:Nat) (cs:List Value) (x:DataW H×List MemPlace),spT P d t=some sp→DataW.trod enc P w 0 spare held fuel t cs=some x→Rd A w sp cs
 | 0,t,sp,fuel,cs,x,h,hx=>by simp [spT] at h
 | d+1,t,sp,fuel,cs,x,h,hx=>by
  rw [spT] at h
  cases hu:P.underlying t with
  | none=>simp [hu] at h
  | some u=>
   rw [hu] at h
   cases u with
   | int k=>
    simp only [Option.some.injEq] at h;subst h
    obtain ⟨n,rfl,_,hw⟩:=DataW.trod_int hu hx
    exact Rd.one (by rw [Sp.fit];exact ⟨n,rfl,hw⟩) (.int k n)
   | bool=>
    simp only [Option.some.injEq] at h;subst h
    obtain ⟨n,rfl,_⟩:=DataW.trod_bool hu hx
    exact Rd.one (by rw [Sp.fit];exact ⟨n,rfl⟩) (.bool n)
   | string=>
    simp only [Option.some.injEq] at h;subst h
    obtain ⟨n,rfl,_,hw⟩:=DataW.trod_string hu hx
    exact Rd.one (by rw [Sp.fit];exact ⟨n,rfl,hw⟩) (.str n)
   | «struct» fs=>
    simp only at h
    cases h1:spFs P (spT P d) fs.toList 0 with
    | none=>simp [h1] at h
    | some l=>
     simp only [h1] at h
     cases hb:Nat.beq (P.cellsOf t) l.length with
     | false=>simp [hb] at h
     | true=>
      simp only [hb,cond_true,Option.some.injEq] at h;subst h
      have e:=Nat.eq_of_beq_eq_true hb
      obtain ⟨xs,n,_,_,hl,hlen,hf⟩:=DataW.trod_struct hu hx
      have:=spFs_rd (A:=A) (n:=n) (rec:=spT P d) (fun t sp cs x=>trod_rd hA d t sp n cs x) cs fs.toList 0 l h1 (fun f hf'=>by
       obtain ⟨i,hi,hfi⟩:=List.getElem_of_mem hf'
       have hi':i<fs.size:=by simpa using hi
       have:=hf i f (by rw [Array.getElem?_eq_getElem hi'];simpa using hfi)
       rw [List.getElem?_eq_getElem (by omega)] at this
       exact ⟨_,this⟩) (by omega)
      simpa using this
   | array n e=>
    simp only at h
    cases h1:spT P d e with
    | none=>simp [h1] at h
    | some l=>
     simp only [h1] at h
     cases hb:(Nat.beq (P.cellsOf e) l.length&&Nat.beq (P.cellsOf t) (n*l.length)) with
     | false=>simp [hb] at h
     | true=>
      simp only [hb,cond_true,Option.some.injEq] at h;subst h
      rw [Bool.and_eq_true] at hb
      have e1:=Nat.eq_of_beq_eq_true hb.1
      have e2:=Nat.eq_of_beq_eq_true hb.2
      obtain ⟨xs,m,_,_,hl,hlen,hf⟩:=DataW.trod_array hu hx
      have:=spA_rd (A:=A) (n:=m) (e:=e) (l:=l) (fun cs x hx=>trod_rd hA d e l m cs x h1 hx) cs n (fun i hi=>by
       have:=hf i hi
       rw [List.getElem?_eq_getElem (by omega),e1] at this
       exact ⟨_,this⟩) n 0 (by omega) (by omega)
      simpa using this
   | slice e=>
    simp only at h
    cases h1:spT P d e with
    | none=>simp [h1] at h
    | some l=>
     simp only [h1] at h
     cases hb:(Nat.beq (P.cellsOf e) l.length&&Nat.ble 1 l.length) with
     | false=>simp [hb] at h
     | true=>
      simp only [hb,cond_true,Option.some.injEq] at h;subst h
      rw [Bool.and_eq_true] at hb
      have e1:=Nat.eq_of_beq_eq_true hb.1
      have e2:=Nat.le_of_ble_eq_true hb.2
      rcases DataW.trod_slice hu hx with ⟨rfl,_⟩ | ⟨a,len,cap,elems,rest,n,_,rfl,_,hb,hlc,hcm,hel,hE,_,_⟩
      ·exact Rd.one (x:=.sl l.length []) (by rw [Sp.fit];exact ⟨[],rfl,Nat.zero_le _,fun row h=>by simp at h⟩)
        (.sl l.length [] none 0 (fun _ _=>.nilFunc) (Nat.le_refl _) (Nat.zero_le _) (fun h=>absurd h (by simp)) (fun i row h=>by simp at h) (fun _ _ h=>by cases h) (fun i j row x h=>by simp at h))
      ·have hcs:∀ i,∃ cs xs,i<len→w.cells? 0 (a.add (i*l.length)) l.length=some cs∧fitL l xs∧cs.length=xs.length∧∀ (i:Nat) (x:D) (v:Value),xs[i]?=some x→cs[i]?=some v→DRel A w x v:=by
        intro i
        by_cases hi:i<len
        ·have:=hE i hi
         rw [List.getElem?_eq_getElem (by omega),Option.bind_eq_some_iff,e1] at this
         obtain ⟨cs,k1,k2⟩:=this
         obtain ⟨xs,j1,j2,j3⟩:=trod_rd hA d e l n cs _ h1 k2
         exact ⟨cs,xs,fun _=>⟨k1,j1,j2,j3⟩⟩
        ·exact ⟨[],[],fun h=>absurd h hi⟩
       obtain ⟨cf,hcf⟩:=Classical.axiomOfChoice hcs
       obtain ⟨xf,hxf⟩:=Classical.axiomOfChoice hcf
       have hadd:∀ i,i<len→a.spot=none∧a.block<w.heap.size:=by
        intro i hi
        have h0:=(hxf 0 (by omega)).1
        rw [Nat.zero_mul,show a.add 0=a from rfl] at h0
        obtain ⟨_,hl0,hc0⟩:=World.cells?_some h0
        have:=hc0 0 (by omega)
        rw [show a.add 0=a from rfl,List.getElem?_eq_getElem (by omega)] at this
        exact ⟨(cell_lt this).2,(cell_lt this).1⟩
       have hL:((List.range len).map xf).length=len:=by simp
       refine Rd.one (x:=.sl l.length ((List.range len).map xf)) (by
        rw [Sp.fit]
        refine ⟨_,rfl,by simp;omega,fun row hr=>?_⟩
        rw [List.mem_map] at hr
        obtain ⟨i,hi,rfl⟩:=hr
        exact (hxf i (by simpa using hi)).2.1) ?_
       have key:DRel A w (.sl l.length ((List.range len).map xf)) (.slice (some a) ((List.range len).map xf).length cap):=by
        refine .sl l.length ((List.range len).map xf) (some a) cap (fun i j=>((cf i)[j]?).getD .nilFunc) (by rw [hL];exact hlc) hcm (fun hp=>?_) (fun i row hr=>?_) (fun g o hg i j hi hj=>?_) (fun i j row x hr hx=>?_)
        ·rw [hL] at hp
         obtain ⟨e3,e4⟩:=hadd 0 hp
         refine ⟨a.block,a.off,?_,hA _ e4⟩
         cases a;simp_all
        ·rw [List.getElem?_map] at hr
         cases hi:(List.range len)[i]? with
         | none=>simp [hi] at hr
         | some i'=>
          simp [hi] at hr;subst hr
          have:i'<len:=by have:=List.mem_of_getElem? hi;simpa using this
          exact fitL_len _ _ (hxf i' this).2.1
        ·rw [hL] at hi
         cases hg
         obtain ⟨k1,k2,k3,k4⟩:=hxf i hi
         obtain ⟨_,k5,k6⟩:=World.cells?_some k1
         have:=k6 j hj
         rw [List.getElem?_eq_getElem (by omega)] at this ⊢
         rw [Option.getD_some,← this]
         congr 1
         unfold Addr.add
         by_cases q1:i*l.length=0<;>by_cases q2:j=0<;>simp [q1,q2,Nat.add_assoc]
        ·rw [List.getElem?_map] at hr
         cases hi:(List.range len)[i]? with
         | none=>simp [hi] at hr
         | some i'=>
          have e5:i'=i:=by
           have:=(List.getElem?_eq_some_iff.1 hi)
           obtain ⟨_,h2⟩:=this
           simpa using h2.symm
          subst e5
          simp [hi] at hr;subst hr
          have hlt:i'<len:=by have:=List.mem_of_getElem? hi;simpa using this
          obtain ⟨k1,k2,k3,k4⟩:=hxf i' hlt
          have hj:j<(cf i').length:=by have:=(List.getElem?_eq_some_iff.1 hx).1;omega
          rw [List.getElem?_eq_getElem hj,Option.getD_some]
          exact k4 j x _ hx (List.getElem?_eq_getElem hj)
       rw [hL] at key
       exact key
   | _=>simp at h
end
end Go.Abs
namespace Go.Abs
open Go.ChangeShapes Go.WideShapes Go.ChangeAt Go.WideMaps Go.WideElems Go.RowKit
def cx0 (W:World):Cx:=⟨fun _=>none,fun g=>g<W.heap.size,fun _=>False,0⟩
def GlOk (G:Gl) (W:World):Prop:=∀ g row,look G g=some row→g<W.heap.size∧∀ (j:Nat) (x:D),row[j]?=some x→∃ cv,W.cell? ⟨g,j,none⟩=some cv∧DRel (fun g=>g<W.heap.size) W x cv
abbrev ArgR (W:World) (x:V) (v:Value):Prop:=VRel (cx0 W) (look ([]:List (Nat×Blk))) (fun r=>r<0) W x v
theorem scall_calls {P:Program} {G:Gl} {f:Nat} {vs:List V} {W:World} {args:Array Value} (h:SCall P G f vs [] 0 Fr.emp (.d (.bool true)) [] 0 Fr.emp) (hG:GlOk G W) (hlen:args.size=vs.length)
  (hv:∀ (i:Nat) (x:V) (v:Value),vs[i]?=some x→args[i]?=some v→ArgR W x v):Calls P f args W fun e W'=>e=.returned (.bool true)∧Below W.heap.size W W':=by
 rw [← callsIn_wide (n:=0)]
 refine CallsIn.mono (h (cx0 W) W args hlen hv ?_) fun e W' hr=>?_
 ·exact {
   lt:=fun r b h=>by cases h
   pl:=fun r b h=>by cases h
   inj:=fun r r' b b' g m m' h=>by cases h
   nA:=fun r b g m h=>by cases h
   nO:=fun r b g m h=>by cases h
   AO:=fun g _ h=>h
   Alt:=fun g h=>h
   Olt:=fun g h=>h.elim
   fr:=fun g h=>h
   gl:=fun g row h=>hG g row h }
 ·obtain ⟨rv,c',rfl,hr,_,_,hx⟩:=hr
  have e:rv=.bool true:=by cases hr with | d _ _ h=>cases h;rfl
  subst e
  exact ⟨rfl,hx.os,hx.tape,hx.output,hx.size,fun k hk=>hx.same k hk (fun r b m h=>by cases h) (fun h=>h)⟩
section
variable {H:Type} {enc:TypeId×Value→H} {P:Program} {W W':World}
theorem trodAll_stays (hl:laidOutB P=true) (hb:Below W.heap.size W W') (sp:Nat→Bool):∀ (ts:List TypeId) (vs:List Value) (ds:List (DataW H)) (ps:List MemPlace),(ts.all fun t=>P.readableRec t&&decide (t<P.types.size))=true →
  DataW.TrodAll enc P W 0 (fun _=>true) true ts vs ds ps→(∀ x,x∈ps→x.block<W.heap.size∧sp x.block=true)→DataW.TrodAll enc P W' 0 sp true ts vs ds ps
 | [],[],[],ps,_,h,_=>h
 | t::ts,v::vs,d::ds,ps,hr,h,hp=>by
  obtain ⟨p,q,h1,h2,rfl⟩:=h
  simp only [List.all_cons,Bool.and_eq_true,decide_eq_true_eq] at hr
  exact ⟨p,q,WideElems.Trod_stays hl hr.1.1 hr.1.2 h1 (fun x hx=>hb.same (hp x (by simp [hx])).1) (fun x hx=>(hp x (by simp [hx])).2),
   trodAll_stays hl hb sp ts vs ds q (by simpa using hr.2) h2 (fun x hx=>hp x (by simp [hx])),rfl⟩
 | [],[],_::_,_,_,h,_=>h.elim
 | [],_::_,_,_,_,h,_=>h.elim
 | _::_,[],_,_,_,h,_=>h.elim
 | _::_,_::_,[],_,_,h,_=>h.elim
theorem trodAll_len:∀ (ts:List TypeId) (vs:List Value) (ds:List (DataW H)) (ps:List MemPlace),DataW.TrodAll enc P W 0 (fun _=>true) true ts vs ds ps→ds.length=ts.length
 | [],[],[],ps,h=>rfl
 | t::ts,v::vs,d::ds,ps,h=>by obtain ⟨p,q,h1,h2,rfl⟩:=h;simp [trodAll_len ts vs ds q h2]
 | [],[],_::_,_,h=>h.elim
 | [],_::_,_,_,h=>h.elim
 | _::_,[],_,_,h=>h.elim
 | _::_,_::_,[],_,h=>h.elim
theorem card_post {fn:Func} {s:ChangeSpec} {args:Array Value} {ds gs:List (DataW H)} {before:List MemPlace} {tb:TypeId} (hl:laidOutB P=true) (hb:Below W.heap.size W W')
  (hr:(fn.params.toList.all fun t=>P.readableRec t&&decide (t<P.types.size))=true) (hsv:s.vars=[]) (hfn:∀ l:List (DataW H),l.length=fn.params.toList.length→s.fn H l={ results:=[.lit (.bool true)],args:=l })
  (hres:fn.resultTypes=#[tb]) (htb:P.underlying tb=some .bool) (hW:DataW.Whole enc P fn.params.toList s.vars false W args.toList ds gs before) :
  s.post enc P fn false true false false W args (.bool true) W':=by
 have hlt:=hW.lt
 have hW':=hW
 obtain ⟨p,q,hA,hV,rfl,_,_⟩:=hW
 rw [hsv] at hV
 obtain ⟨rfl,rfl⟩:=trodVars_none hV
 have e:=hfn ds (trodAll_len _ _ _ _ hA)
 refine ⟨ds,[],p++[],[],p,[],hW',?_,?_,?_,hb.frame _,fun h=>by cases h⟩
 ·rw [List.append_nil,e,hres]
  exact trodAll_mk1 (shut_bool htb _)
 ·rw [List.append_nil,e]
  exact trodAll_stays hl hb _ _ _ _ _ hr hA (fun x hx=>⟨by simpa using hlt x (by simp [hx]),by simpa using hlt x (by simp [hx])⟩)
 ·rw [List.append_nil,e,hsv]
  rfl
theorem arg_agg {r:Reach} {b0:Nat} {t:TypeId} {u:TypeDesc} {sp:List Sp} {v:Value} {d:DataW H} {ps:List MemPlace} (ht:P.underlying t=some u) (hu:aggD u=true) (n:Nat) (hsp:spT P n t=some sp) (hval:Value.okWide P W r b0 t v) (hd:DataW.Trod enc P W 0 (fun _=>true) true t v d ps) :
  ∃ xs,fitL sp xs∧ArgR W (.agg (xs.map .d)) v:=by
 obtain ⟨fuel,hd⟩:=hd
 obtain ⟨xs,h1,h2,h3⟩:=trod_rd (A:=fun g=>g<W.heap.size) (fun _ h=>h) n t sp fuel _ _ hsp hd
 have:∃ cs,v=.agg cs:=by
  unfold Value.okWide at hval
  rw [ht] at hval
  cases u<;>simp [aggD] at hu
  ·obtain ⟨cs,h,_⟩:=hval;exact ⟨cs,h⟩
  ·obtain ⟨cs,h,_⟩:=hval;exact ⟨cs,h⟩
 obtain ⟨cs,rfl⟩:=this
 refine ⟨xs,h1,?_⟩
 have hk:∀ (i:Nat) (x:V) (v:Value),(xs.map V.d)[i]?=some x→cs.toList[i]?=some v→ArgR W x v:=by
  intro i x v hx hv
  rw [List.getElem?_map] at hx
  cases hy:xs[i]? with
  | none=>simp [hy] at hx
  | some y=>
   simp [hy] at hx;subst hx
   exact .d _ _ (h3 i y v hy hv)
 have:=VRel.agg (c:=cx0 W) (H:=look ([]:List (Nat×Blk))) (U:=fun r=>r<0) (w:=W) (xs.map .d) cs.toList (by simpa [Value.cells] using h2) hk (fun v hv=>by
  obtain ⟨i,hi,rfl⟩:=List.getElem_of_mem hv
  have h2':cs.toList.length=xs.length:=h2
  exact (h3 i _ _ (List.getElem?_eq_getElem (by omega)) (List.getElem?_eq_getElem hi)).oneCell)
 exact this
end
end Go.Abs
namespace Go.Abs
theorem HStep.trans {c c1 c2:Cx} {H H1 H2:Hp} {U U1 U2:Nat→Prop} (h1:HStep c H U c1 H1 U1) (h2:HStep c1 H1 U1 c2 H2 U2):HStep c H U c2 H2 U2 where
 hU:=fun r hr=>h2.hU r (h1.hU r hr)
 hy:=h2.hy.trans h1.hy
 hA:=fun g hg=>h2.hA g (h1.hA g hg)
 var:=fun r0 T0 c0 h0=>by
  obtain ⟨a1,c1,a2⟩:=h1.var _ _ _ h0
  obtain ⟨a3,c2,a4⟩:=h2.var _ _ _ a2
  exact ⟨a3.trans a1,c2,a4⟩
 row:=fun r0 T0 es0 xs0 hu h0=>by
  obtain ⟨y1,a1,a2,a3⟩:=h2.row _ _ _ _ (h1.hU _ hu) h0
  obtain ⟨y2,b1,b2,b3⟩:=h1.row _ _ _ _ hu a1
  exact ⟨y2,b1,by omega,fun e=>(a3 (by omega)).trans (b3 (by omega))⟩
 mp:=fun r0 es0 h0=>by
  obtain ⟨a1,c1,a2⟩:=h1.mp _ _ h0
  obtain ⟨a3,c2,a4⟩:=h2.mp _ _ a2
  exact ⟨a3.trans a1,c2,a4⟩
 dm:=fun r0 h0=>by
  obtain ⟨a1,a2⟩:=h1.dm _ h0
  obtain ⟨a3,a4⟩:=h2.dm _ a2
  exact ⟨a3.trans a1,a4⟩
 arr:=fun r0 T0 c0 hu h0=>by
  obtain ⟨y1,a1,a2⟩:=h2.arr _ _ _ (h1.hU _ hu) h0
  obtain ⟨y2,b1,b2⟩:=h1.arr _ _ _ hu a1
  exact ⟨y2,b1,a2.trans b2⟩
theorem HStep.forget {c:Cx} {H:Hp} {U:Nat→Prop} {nm:Nat} (hn:H nm=none):HStep c (upd H nm .dead) U c H U where
 hU:=fun _ h=>h
 hy:=rfl
 hA:=fun _ h=>h
 var:=fun r T cs h0=>by
  by_cases e:nm=r
  ·subst e;rw [upd_same] at h0;cases h0
  ·exact ⟨rfl,cs,by rwa [upd_other _ _ _ _ e] at h0⟩
 row:=fun r T es xs _ h0=>by
  by_cases e:nm=r
  ·subst e;rw [hn] at h0;cases h0
  ·exact ⟨xs,by rwa [upd_other _ _ _ _ e],Nat.le_refl _,fun _=>rfl⟩
 mp:=fun r es h0=>by
  by_cases e:nm=r
  ·subst e;rw [upd_same] at h0;cases h0
  ·exact ⟨rfl,es,by rwa [upd_other _ _ _ _ e] at h0⟩
 dm:=fun r h0=>by
  by_cases e:nm=r
  ·subst e;rw [upd_same] at h0;cases h0
  ·exact ⟨rfl,by rwa [upd_other _ _ _ _ e] at h0⟩
 arr:=fun r T cs _ h0=>by
  by_cases e:nm=r
  ·subst e;rw [hn] at h0;cases h0
  ·exact ⟨cs,by rwa [upd_other _ _ _ _ e],rfl⟩
theorem HRel.forget {G:Gl} {c:Cx} {H:Hp} {U:Nat→Prop} {fr:Fr} {w:World} {nm:Nat} (h:HRel G c (upd H nm .dead) U fr w) (hn:H nm=none):HRel G c H U fr w:=by
 have old:∀ r b,H r=some b→upd H nm .dead r=some b:=fun r b h0=>by
  by_cases e:nm=r
  ·subst e;rw [hn] at h0;cases h0
  ·rwa [upd_other _ _ _ _ e]
 refine ⟨fun r b h0=>h.lt _ _ (old _ _ h0),fun r b h0=>?_,fun r r' b b' g m m' h0 h1=>h.inj _ _ _ _ _ _ _ (old _ _ h0) (old _ _ h1),fun r b g m h0=>h.nA _ _ _ _ (old _ _ h0),fun r b g m h0=>h.nO _ _ _ _ (old _ _ h0),h.AO,h.Alt,h.Olt,h.fr,h.gl⟩
 rcases h.pl _ _ (old _ _ h0) with ⟨g,m,hf,hB⟩ | hu
 ·exact .inl ⟨g,m,hf,hB.mono rfl (fun _ _=>rfl) (HStep.forget hn)⟩
 ·exact .inr hu
theorem upd_upd {α:Type} (f:Nat→Option α) (r:Nat) (x y:α):upd (upd f r x) r y=upd f r y:=by
 funext n
 by_cases e:r=n
 ·subst e;rw [upd_same,upd_same]
 ·rw [upd_other _ _ _ _ e,upd_other _ _ _ _ e,upd_other _ _ _ _ e]
section
variable {P:Program} {G:Gl} {nt:Nat}
theorem s_bslF {T es n:Nat} {z:List D} {parts:List (Nat×Nat×Opd)} {vs out:List V} {cs:List D} {ys:List (List D)} {nm:Nat} {fr:Fr} (hf:fillV ((repD n z).map .d) (plOf parts) vs=some out) (hu:unV out=some cs) (hl:(opOf parts).length=vs.length) (hlen:cs.length=n*es) (hn:n≤maxLen) (hy:rowsOf es n cs=ys) :
  LStp P G nt (.bsl T es n z parts) ((opOf parts).zip vs) [] (.d (.sl es ys)) ⟨[],[nm]⟩ fr fr:=by
 subst hy
 intro U E H o F c a w next Q ht hF hR hE hH hnw k
 have hn0:H nm=none:=by
  cases h0:H nm with
  | none=>rfl
  | some b=>exact absurd (hR.h.lt _ _ h0) (hnw nm (by simp))
 refine s_bsl (nm:=nm) hf hu hl hlen hn U E H o F c a w next Q ht hF hR hE hH hnw (fun c1 cv w1 hs1 hR1 hv1 hx1=>?_)
 have hr:hpOf [(nm,.row T es (rowsOf es n cs))] H nm=some (.row T es (rowsOf es n cs)):=upd_same _ _ _
 have hh:=hR1.h.fz hr
 have e:upd (hpOf [(nm,.row T es (rowsOf es n cs))] H) nm .dead=upd H nm .dead:=upd_upd _ _ _ _
 have hs2:=HStep.fz c1 _ (usOf [nm] U) hr
 rw [e] at hh hs2
 have hs3:HStep c1 (hpOf [(nm,.row T es (rowsOf es n cs))] H) (usOf [nm] U) (c1.fz nm) H (usOf [nm] U):=hs2.trans (HStep.forget hn0)
 refine k (c1.fz nm) cv w1 (hs1.trans hs3) ⟨hR1.nt,fun t v hv=>?_,hh.forget hn0⟩ ?_ ?_
 ·obtain ⟨u,h1,h2⟩:=hR1.env t v hv
  exact ⟨u,h1,h2.mono (fun _ _=>rfl) hs3⟩
 ·have:=VRel.fz hR1.h hr (rowsOf_len es n cs) hv1
  cases this with | d _ _ h=>exact .d _ _ h
 ·refine ⟨hx1.os,hx1.tape,hx1.output,hx1.size,hx1.hy,hx1.same,fun r b g m h0 f0=>?_,fun g hg=>.inl (hx1.A g hg),fun g hg=>?_,hx1.O'⟩
  ·by_cases e:nm=r
   ·simp [Cx.fz,e] at f0
   ·refine hx1.pl r b g m ?_ (by simpa [Cx.fz,e] using f0)
    exact (upd_other _ _ _ _ e).trans h0
  ·rcases hg with h | ⟨m,hm⟩
   ·exact hx1.A' g h
   ·exact .inr (hx1.pl nm _ g m hr hm)
end
section
variable {P:Program} {G:Gl} {nt:Nat} {F:Fence} {K:St→List SD→Prop} {rest:List IOper} {σ:St} {sds:List SD} {g:Option (Nat×Bool)} {aft:List Nat}
theorem r_bslF {t T es n:Nat} {z:List D} {parts:List (Nat×Nat×Opd)} {vs out:List V} {cs:List D} {ys:List (List D)} (hg:Wants σ g) (hx:evs G (look σ.env) (opOf parts)=some vs) (hf:fillV ((repD n z).map .d) (plOf parts) vs=some out) (hu:unV out=some cs) (hl:Nat.beq (opOf parts).length vs.length=true) (hlen:Nat.beq cs.length (n*es)=true) (hn:Nat.ble n maxLen=true) (hy:rowsOf es n cs=ys)
  (k:RunC P G nt K rest { env:=(t,.d (.sl es ys))::σ.env,heap:=σ.heap,nx:=σ.nx+1,fr:=σ.fr,dfs:=σ.dfs,base:=σ.base } (sds++[sdOf g ((opOf parts).zip vs) [] ⟨[],[σ.nx]⟩])):RunC P G nt K (⟨some t,g,.bsl T es n z parts,aft⟩::rest) σ sds:=
 .step (s_bslF hf hu (Nat.eq_of_beq_eq_true hl) (Nat.eq_of_beq_eq_true hlen) (Nat.le_of_ble_eq_true hn) hy) hg (Evs.zip hx) trivial rfl k
end
end Go.Abs
namespace Go.Abs
abbrev sT (e:List (Nat×V)) (h:List (Nat×Blk)) (n m:Nat):St:=⟨e,h,n,Fr.emp,[],m⟩
abbrev jI (n:Int):V:=.d (I n)
abbrev pR (t r:Nat):Nat×V:=(t,.ptr r 0)
abbrev tP (t:Nat):Opd:=.tmp t
abbrev kP (n:Int):Opd:=.cst (.d (.int .i64 n))
abbrev oP (t:Nat) (x:IOp):IOper:=⟨some t,none,x,[]⟩
abbrev sP (x:IOp):IOper:=⟨none,none,x,[]⟩
abbrev rG (l:List IOper):ICode:=.reg false l
section
variable {P:Program} {G:Gl} {nt:Nat}
theorem Au {ops:List IOper} {Q:Post} {σ:St} (n:Nat) (σ1:St) (k:RW P G nt Fence.wide (ops.drop n) Q σ1) (h:segB G [] false (ops.take n) σ (keysE σ1.env) (keysL σ1.heap) σ1.nx=some σ1:=by kernel_rfl):RW P G nt Fence.wide ops Q σ:=RW.au fokW n [] σ1 h k
theorem Sa {d:Bool} {ops:List IOper} {y:ICode} {Q:Post} {σ:St} (σ1:St) (k:AW P G nt Fence.wide y Q σ1) (h:segB G [] d ops σ (keysE σ1.env) (keysL σ1.heap) σ1.nx=some σ1:=by kernel_rfl):AW P G nt Fence.wide (.seq (.reg d ops) y) Q σ:=AW.sa fokW [] σ1 h k
theorem Ra {d:Bool} {ops:List IOper} {Q:Post} {σ:St} (σ1:St) (k:Q .normal σ1) (h:segB G [] d ops σ (keysE σ1.env) (keysL σ1.heap) σ1.nx=some σ1:=by kernel_rfl):AW P G nt Fence.wide (.reg d ops) Q σ:=AW.ra fokW [] σ1 h k
theorem aX {K:St→List SD→Prop} {ops:List IOper} {σ:St} {sds:List SD} (n:Nat) (σ1:St) (k:RunC P G nt (Kc K) (ops.drop n) σ1 (sds++sdsC G (ops.take n) σ)) (h:autR G (ops.take n) σ (keysE σ1.env)=some σ1:=by kernel_rfl):RunC P G nt (Kc K) ops σ sds:=RunC.auX n σ1 h k
theorem Fi {ops:List IOper} {Q:Post} {σ:St} {sds:List SD} (σ1:St) (k:Q .normal σ1) (hok:okD ops sds=true:=by kernel_rfl) (h:keepS σ (keysE σ1.env) (keysL σ1.heap) σ1.nx=some σ1:=by kernel_rfl):RunC P G nt (Kd ops Q) [] σ sds:=RunC.fin σ1 hok h k
theorem rC {d:Option Nat} {f:Nat} {args:List Opd} {vs:List V} {r:V} {ops:List IOper} {aft:List Nat} {Q:Post} {σ:St} (h:PCall P G f vs r) (k:RW P G nt Fence.wide ops Q (σ.put d r)) (hx:evs G (look σ.env) args=some vs:=by exact rfl) (hl:Nat.beq args.length vs.length=true:=by exact rfl) (hok:V.okR.okRs 0 (fun _=>false) vs=true:=by exact rfl):RW P G nt Fence.wide (⟨d,none,.call f args,aft⟩::ops) Q σ:=
 RW.one fokW (r_call trivial hx h hl hok (r_end k))
theorem rL {d:Option Nat} {x:Opd} {α:Type} {f:α→List D} {es:Nat} {xs:List α} {ops:List IOper} {aft:List Nat} {Q:Post} {σ:St} (hx:ev G (look σ.env) x=some (.d (.sl es (List.map f xs)))) (k:RW P G nt Fence.wide ops Q (σ.put d (.d (.int .i64 (xs.length:Int))))):RW P G nt Fence.wide (⟨d,none,.len x,aft⟩::ops) Q σ:=
 RW.one fokW (r_lenX trivial hx lenm (r_end k))
theorem rT {F:Fence} {rs:List IRes} {r:V} {H':List (Nat×Blk)} {nx' nx0:Nat} {fr':Fr} {σ:St} {vs:List V} {Q:Post} (hR:∀ σ,RetQ rs r H' nx' fr' nx0 σ→Q .ret σ) (hv:ResVs σ rs vs) (hz:Frz (hzOf σ.heap H') (retV vs) r:=by exact .refl _) (hfr:σ.fr=fr':=by exact rfl) (hH:selH σ.heap (keysL H')=some H':=by kernel_rfl) (hb:endB σ r H' nx' nx0=true:=by kernel_rfl):AW P G nt F .ret Q σ:=
 AW.ret (hR _ (retX hv hz hfr hH hb))
end
end Go.Abs
namespace Go.Abs
def subA {α:Type} (n:Nat) (w:Nat→α) (lo hi:Int):Option (List α):=bif decide (0≤lo)&&(decide (lo≤hi)&&(decide (hi≤(n:Int))&&decide (lo<(n:Int)))) then some ((List.range' lo.toNat (hi.toNat - lo.toNat)).map w) else none
theorem subA_ok {α:Type} {n:Nat} {w:Nat→α} {lo hi:Int} {l:List α} (h:subA n w lo hi=some l):0≤lo∧lo≤hi∧hi≤(n:Int)∧lo<(n:Int)∧(List.range' lo.toNat (hi.toNat - lo.toNat)).map w=l:=by
 unfold subA at h
 cases hr:decide (0≤lo)&&(decide (lo≤hi)&&(decide (hi≤(n:Int))&&decide (lo<(n:Int)))) with
 | true=>
  rw [hr] at h;cases h
  simp only [Bool.and_eq_true,decide_eq_true_eq] at hr
  exact ⟨hr.1,hr.2.1,hr.2.2.1,hr.2.2.2,rfl⟩
 | false=>rw [hr] at h;cases h
inductive Brw (H:Hp):V→V→Prop where
 | refl (v:V):Brw H v v
 | arr {r off n k T es:Nat} {cs:List V} {xs:List (List D)} (hr:H r=some (.var T cs)) (hl:xs.length=n) (hk:n≤k) (hes:∀ (i:Nat) row,xs[i]?=some row→row.length=es)
   (hc:∀ (i j:Nat) row x,xs[i]?=some row→row[j]?=some x→cs[off+i*es+j]?=some (.d x)):Brw H (.vsl r off n k) (.d (.sl es xs))
def BrwL (H:Hp):List V→List V→Prop
 | [],[]=>True
 | x::xs,y::ys=>Brw H x y∧BrwL H xs ys
 | _,_=>False
theorem BrwL.get {H:Hp}:∀ {cs cs':List V},BrwL H cs cs'→cs'.length=cs.length∧∀ (i:Nat) (x y:V),cs[i]?=some x→cs'[i]?=some y→Brw H x y
 | [],[],_=>⟨rfl,fun i x y hx=>by simp at hx⟩
 | x::xs,y::ys,⟨h,k⟩=>by
  obtain ⟨h1,h2⟩:=BrwL.get k
  refine ⟨by simp [h1],fun i a b ha hb=>?_⟩
  cases i with
  | zero=>simp at ha hb;subst ha hb;exact h
  | succ i=>exact h2 i a b (by simpa using ha) (by simpa using hb)
section
variable {P:Program} {G:Gl} {nt:Nat}
theorem s_slcA {n es:Nat} {x lo hi:Opd} {r off T:Nat} {cs:List V} {kl kh:IntKind} {l h:Int} {fr:Fr} (h0:0≤l) (h1:l≤h) (h2:h≤(n:Int)) (h3:l<(n:Int)) (hn:n≤maxLen) :
  LStp P G nt (.slcA n es x lo hi) [(x,.ptr r off),(lo,.d (.int kl l)),(hi,.d (.int kh h))] [(r,.var T cs)] (.vsl r (off+l.toNat*es) (h.toNat - l.toNat) (n - l.toNat)) ⟨[],[]⟩ fr fr:=by
 refine .pure fun U E H o c ac w ht hR hE hH=>?_
 generalize hop:o.op=op at ht
 cases ht with
 | @slcA t e n0 j xo lo1 hi1 _ _ _ ht hj hx hl hh=>
  obtain ⟨g,m,hfm,ha⟩:=(ev_ok hR hx hE.1).ptr_inv hH.1
  have el:=(ev_ok hR hl hE.2.1).int_inv
  have eh:=(ev_ok hR hh hE.2.2.1).int_inv
  have hne:¬ n=l.toNat:=by omega
  refine ⟨by simp,.slice (some ⟨g,off+l.toNat*j.size,none⟩) (h.toNat - l.toNat) (n - l.toNat),?_,.vsl r _ _ _ T g m cs (by omega) hH.1 hfm⟩
  have hb1:l≤(h.toNat:Int):=by omega
  simp only [execOp,hop,Instr.sliceAt,run_underlying ht,Sem.run_bind,Result.andThen_ok,ha,el,eh,Option.map_some,Option.map_none,Instr.sureAddr,Instr.sliceBounds,run_bound (show (0:Int)≤h by omega) h2,run_bound h0 hb1,run_sizeOf hj,Sem.run_pure,hne,if_false,add_none,Bool.false_eq_true]
 | @slcA0 t e n0 j xo hi1 _ _ ht hj hx hh=>
  obtain ⟨g,m,hfm,ha⟩:=(ev_ok hR hx hE.1).ptr_inv hH.1
  have el:(Value.int .i64 0)=.int kl l:=by
   have:=hE.2.1
   simp only [ev] at this
   cases this;rfl
  cases el
  have eh:=(ev_ok hR hh hE.2.2.1).int_inv
  have hne:¬ n=(0:Int).toNat:=by intro h;rw [h] at h3;simp at h3
  refine ⟨by simp,.slice (some ⟨g,off+(0:Int).toNat*j.size,none⟩) (h.toNat - (0:Int).toNat) (n - (0:Int).toNat),?_,.vsl r _ _ _ T g m cs (by omega) hH.1 hfm⟩
  have hne':¬ n=0:=by simpa using hne
  simp only [execOp,hop,Instr.sliceAt,run_underlying ht,Sem.run_bind,Result.andThen_ok,ha,eh,Option.map_some,Option.map_none,Instr.sureAddr,Instr.sliceBounds,run_bound (show (0:Int)≤h by omega) h2,run_sizeOf hj,Sem.run_pure,hne',if_false,add_none,Bool.false_eq_true]
  simp
theorem s_callB {f:Nat} {args:List Opd} {vs vs':List V} {rs:List (Nat×Blk)} {r:V} {fr:Fr} (h:PCall P G f vs' r) (hz:BrwL (look rs) vs vs') (hrs:∀ q b,look rs q=some b→(q,b)∈rs) (hl:args.length=vs.length)
  (hok:V.okR.okRs 0 (fun _=>false) vs'=true) (hns:r.noSl=true):LStp P G nt (.call f args) (args.zip vs) rs r ⟨[],[]⟩ fr fr:=by
 intro U E H o F c a w next Q ht hF hR hE hH hn k
 generalize hop:o.op=op at ht
 cases ht with
 | @call _ xs ts _ hx hfn=>
  obtain ⟨hlen,hrel⟩:=evs_ok hR hx (Evs.unzip hl hE)
  obtain ⟨hzl,hzg⟩:=hz.get
  have hsub:∀ q b,look rs q=some b→H q=some b:=by
   intro q b hq
   have hm:=hrs q b hq
   clear hrs hq hz hzl hzg
   induction rs with
   | nil=>cases hm
   | cons p l ih=>
    cases hm with
    | head=>exact hH.1
    | tail _ hm=>exact ih hH.2 hm
  have hh:=hR.h
  let A1:Nat→Prop:=fun g=>c.A g∨∃ q T cs m,H q=some (.var T cs)∧c.fm q=some (g,m)
  have hT:∀ g,(∃ q T cs m,H q=some (.var T cs)∧c.fm q=some (g,m))→g<w.heap.size:=by
   rintro g ⟨q,T,cs,m,h1,h2⟩
   obtain ⟨cur,h4,_⟩:=hh.var h1 h2
   exact (Array.getElem?_eq_some_iff.1 h4).1
  refine wp_enter hF (by simp [hop]) (call_run hop hfn w) (h { fm:=fun _=>none,A:=A1,O:=fun _=>False,y:=c.y } w _ (by rw [Array.size_map,hzl];simpa using hlen) (fun i x v hx hv=>?_) ?_) ?_
  ·have hi:i<vs.length:=by have:=(List.getElem?_eq_some_iff.1 hx).1;omega
   have h1:=hrel i _ v (List.getElem?_eq_getElem hi) (by simpa using hv)
   have h2:=hzg i _ x (List.getElem?_eq_getElem hi) hx
   have hk:=okRs_get _ i x hok hx
   clear hv hx
   generalize vs[i]=u at h1 h2
   cases h2 with
   | refl _=>exact no_sub h1 hk _ (fun _ h=>.inl h) rfl
   | @arr q off n k0 T es cs xs hr hl0 hk0 hes hc=>
    cases h1 with
    | vsl _ _ _ _ T' g m cs' hb hH' hf=>
     have hr':=hsub _ _ hr
     obtain ⟨cur,hg,hsz,hcur⟩:=hh.var hr' hf
     subst hl0
     refine .d _ _ (.sl es xs _ _ (fun i j=>(cur[off+i*es+j]?).getD .nilFunc) hk0 hb (fun _=>⟨g,off,rfl,.inr ⟨q,T,cs,m,hr',hf⟩⟩) hes (fun g0 o0 e i j hi hj=>?_) (fun i j row x hi hx=>?_))
     ·cases e
      have hrow:=hes i _ (List.getElem?_eq_getElem hi)
      have hgt:=hc i j xs[i] _ (List.getElem?_eq_getElem hi) (List.getElem?_eq_getElem (by omega))
      have hlt:off+i*es+j<cur.size:=by rw [hsz];exact (List.getElem?_eq_some_iff.1 hgt).1
      rw [cell_at hg,Array.getElem?_eq_getElem hlt];rfl
     ·have hgt:=hc i j row x hi hx
      have hlt:off+i*es+j<cur.size:=by rw [hsz];exact (List.getElem?_eq_some_iff.1 hgt).1
      have:=(hcur _ _ cur[off+i*es+j] hgt (Array.getElem?_eq_getElem hlt)).1
      rw [Array.getElem?_eq_getElem hlt]
      cases this with | d _ _ hdd=>exact hdd.mono (fun _ h=>.inl h) (fun _ _=>rfl)
  ·exact hh.callee (fun g hg=>.inl hg) (fun g hg=>hg.elim (hh.Alt g) (hT g))
  ·rintro e w' ⟨rv,c',rfl,hv,hs,hh',hx'⟩
   refine ⟨rv,rfl,?_⟩
   obtain ⟨h1,h2,h3⟩:=HRel.after (c0:=c') hR.h (.inr trivial) trivial (A1:=c.A) (fun _ h=>h) (fun g hg=>.inl hg) (fun g hg=>Nat.lt_of_lt_of_le (hh.Alt g hg) hx'.size)
    (fun g hg=>hx'.same g hg (fun r b m h=>(look_nil h).elim) (fun h=>h)) hx'.size hx'.os hx'.tape hx'.output
   refine k { c with A:=c.A } rv w' ?_ ?_ (hv.noSl hns) ?_
   ·simpa [hpOf,usOf_nil] using h1
   ·simpa [hpOf,usOf_nil] using hR.step h1 h2 h3
   ·simpa [hpOf] using h3
end
section
variable {P:Program} {G:Gl} {nt:Nat} {F:Fence} {K:St→List SD→Prop} {rest:List IOper} {σ:St} {sds:List SD} {g:Option (Nat×Bool)} {aft:List Nat}
theorem r_slcA {α:Type} {d:Option Nat} {n es:Nat} {x lo hi:Opd} {r off T:Nat} {cs:List V} {kl kh:IntKind} {l h:Int} {w:Nat→α} {ys:List α} (hs:subA n w l h=some ys) (hg:Wants σ g) (hx:ev G (look σ.env) x=some (.ptr r off)) (hl:ev G (look σ.env) lo=some (.d (.int kl l))) (hh:ev G (look σ.env) hi=some (.d (.int kh h))) (hr:look σ.heap r=some (.var T cs)) (hn:Nat.ble n maxLen=true)
  (k:RunC P G nt K rest (σ.put d (.vsl r (off+l.toNat*es) (h.toNat - l.toNat) (n - l.toNat))) (sds++[sdOf g [(x,.ptr r off),(lo,.d (.int kl l)),(hi,.d (.int kh h))] [(r,.var T cs)] ⟨[],[]⟩])):RunC P G nt K (⟨d,g,.slcA n es x lo hi,aft⟩::rest) σ sds:=by
 obtain ⟨h0,h1,h2,h3,_⟩:=subA_ok hs
 exact .val (s_slcA h0 h1 h2 h3 (Nat.le_of_ble_eq_true hn)) hg ⟨hx,hl,hh,trivial⟩ ⟨hr,trivial⟩ k
theorem r_callB {d:Option Nat} {f:Nat} {args:List Opd} {vs vs':List V} {rs:List (Nat×Blk)} {r:V} (hg:Wants σ g) (hx:evs G (look σ.env) args=some vs) (h:PCall P G f vs' r) (hrd:Rds (look σ.heap) rs) (hz:BrwL (look rs) vs vs') (hl:Nat.beq args.length vs.length=true) (hok:V.okR.okRs 0 (fun _=>false) vs'=true) (hns:r.noSl=true)
  (k:RunC P G nt K rest (σ.put d r) (sds++[sdOf g (args.zip vs) rs ⟨[],[]⟩])):RunC P G nt K (⟨d,g,.call f args,aft⟩::rest) σ sds:=
 .val (s_callB h hz (fun q b hq=>look_mem hq) (Nat.eq_of_beq_eq_true hl) hok hns) hg (Evs.zip hx) hrd k
end
end Go.Abs
namespace Go.Abs
def uAnd (x y:Int):Int:=IntKind.u64.wrap (BitVec.ofInt 64 x &&& BitVec.ofInt 64 y).toNat
theorem shr64u_ok {x y:Int} (h:0≤y):shR .shr .u64 x y=some (shr64 x y):=by
 simp only [shR,shr64];rw [if_neg (by omega)];rfl
theorem brw_arrO {α:Type} {H:Hp} {r T n k o:Nat} {cs:List V} {lo hi:Int} {w:Nat→α} {c:α→D} {l:List α} (h:subA n w lo hi=some l) (hr:H r=some (.var T cs)) (hcs:(cs.drop o).take n=(List.range n).map fun i=>.d (c (w i))) (hk:hi.toNat - lo.toNat≤k):Brw H (.vsl r (o+lo.toNat*1) (hi.toNat - lo.toNat) k) (.d (.sl 1 (List.map (fun a=>[c a]) l))):=by
 obtain ⟨h0,h1,h2,h3,rfl⟩:=subA_ok h
 refine .arr hr (by simp) hk (fun i row hi'=>?_) (fun i j row x hi' hx=>?_)
 ·rw [List.getElem?_map,Option.map_eq_some_iff] at hi'
  obtain ⟨a,_,rfl⟩:=hi';rfl
 ·rw [List.getElem?_map,Option.map_eq_some_iff] at hi'
  obtain ⟨a,ha,rfl⟩:=hi'
  rw [List.getElem?_map,Option.map_eq_some_iff] at ha
  obtain ⟨m,hm,rfl⟩:=ha
  have hi2:i<hi.toNat - lo.toNat:=by have:=(List.getElem?_eq_some_iff.1 hm).1;simpa using this
  rw [List.getElem?_range' hi2] at hm
  cases hm
  cases j with
  | zero=>
   simp at hx;subst hx
   have e:o+lo.toNat*1+i*1+0=o+(lo.toNat+i):=by omega
   have hlt:lo.toNat+i<n:=by omega
   have h5:((cs.drop o).take n)[lo.toNat+i]?=some (.d (c (w (lo.toNat+1*i)))):=by
    rw [hcs,List.getElem?_map,List.getElem?_range hlt];simp
   rw [List.getElem?_take_of_lt hlt,List.getElem?_drop] at h5
   rw [e];simpa using h5
  | succ j=>simp at hx
theorem agtO {f:Nat→V} {n o:Nat} {cs:List V} {i:Int} {j:Nat} (h:ixN n i=some j) (hc:(cs.drop o).take n=(List.range n).map f):cs[o+i.toNat*1]?=some (f j):=by
 obtain ⟨h0,h1,h2⟩:=ixN_ok h
 subst h2
 have h5:((cs.drop o).take n)[i.toNat]?=some (f i.toNat):=by rw [hc];simp [h1]
 rw [List.getElem?_take_of_lt h1,List.getElem?_drop] at h5
 simpa using h5
theorem aslotO {n o:Nat} {i:Int} {j:Nat} (h:ixN n i=some j) {cs:List V} (hl:Nat.ble (o+n) cs.length=true):(o+i.toNat*1)+1≤cs.length:=by
 obtain ⟨h0,h1,h2⟩:=ixN_ok h
 have:=Nat.le_of_ble_eq_true hl
 omega
theorem astO {α:Type} {w:Nat→α} {c:α→V} {x:α} {n o:Nat} {cs cs':List V} {i:Int} {j:Nat} (h:ixN n i=some j) (hl:Nat.ble (o+n) cs.length=true) (hc:(cs.drop o).take n=(List.range n).map fun k=>c (w k))
  (he:cs.take o++((List.range n).map (fun k=>c (aset w j x k))++cs.drop (o+n))=cs'):spl cs (o+i.toNat*1) [c x]=cs':=by
 subst he
 have hl:=Nat.le_of_ble_eq_true hl
 have h6:=ast (w:=w) (c:=c) (x:=x) h
 obtain ⟨h0,h1,h2⟩:=ixN_ok h
 rw [← h6,← hc]
 unfold spl
 simp only [Nat.zero_add,Nat.mul_one,List.length_singleton]
 rw [List.take_take,Nat.min_eq_left (by omega),List.drop_take,List.drop_drop]
 rw [List.take_add,List.append_assoc,List.append_assoc,List.append_assoc,List.append_assoc]
 congr 1;congr 1;congr 1
 rw [show o+n=(o+i.toNat+1)+(n - (i.toNat+1)) by omega,← List.drop_drop (j:=o+i.toNat+1),show o+(i.toNat+1)=o+i.toNat+1 by omega,List.take_append_drop]
section
variable {P:Program} {G:Gl} {nt:Nat}
theorem s_conv {k ks:IntKind} {x:Opd} {n:Int} {fr:Fr}:LStp P G nt (.conv k x) [(x,.d (.int ks n))] [] (.d (.int k (k.wrap n))) ⟨[],[]⟩ fr fr:=by
 refine .pure fun U E H o c ac w ht hR hE hH=>?_
 generalize hop:o.op=op at ht
 cases ht with
 | conv hs ht hx=>
  have e:=(ev_ok hR hx hE.1).int_inv
  refine ⟨by simp,.int k (k.wrap n),?_,.d _ _ (.int _ _)⟩
  simp only [execOp,hop,e,convert,run_underlying hs,run_underlying ht,Conv.intToInt,Sem.run_bind,Result.andThen_ok,Sem.run_pure]
end
section
variable {P:Program} {G:Gl} {nt:Nat} {F:Fence} {K:St→List SD→Prop} {rest:List IOper} {σ:St} {sds:List SD} {g:Option (Nat×Bool)} {aft:List Nat}
theorem r_conv {d:Option Nat} {k ks:IntKind} {x:Opd} {n:Int} (hg:Wants σ g) (hx:ev G (look σ.env) x=some (.d (.int ks n)))
  (k':RunC P G nt K rest (σ.put d (.d (.int k (k.wrap n)))) (sds++[sdOf g [(x,.d (.int ks n))] [] ⟨[],[]⟩])):RunC P G nt K (⟨d,g,.conv k x,aft⟩::rest) σ sds:=
 .val s_conv hg ⟨hx,trivial⟩ trivial k'
end
end Go.Abs
