/- The framework: what a piece of code does to told states, part 6. Conditions: none. -/
import Derived.Test.YthjogmcdfokihaaDoorFwe
import Derived.CallsIn
import Derived.OrdersIn
import Derived.Below
import Derived.Laws.World
import Derived.Laws.Cells
import Derived.Laws.Entries
import Derived.Laws.CopyRow
import Derived.IntWalk
import Derived.RangeFuncRecord
import Derived.RangeFuncLeaves
import Derived.KernelRfl
import Derived.Maps.AppendAt
import Derived.Laws.MakeOwn
import Derived.Laws.StructEq
import Derived.ChangeKeysEq
import Derived.MapKept
import Derived.ProofKit
import Derived.OpenShut
import Derived.LaidMore
import Derived.Lib.SliceRun
set_option linter.unusedVariables false
set_option linter.unusedSimpArgs false
namespace Go.Abs
open Go.ChangeShapes Go.WideShapes Go.ChangeAt Go.WideMaps Go.WideElems Go.RowKit
inductive Sp where
 | i (k:IntKind)
 | b
 | tx
 | sl (es:List Sp)
mutual
def Sp.fit:Sp→D→Prop
 | .i k,x=>∃ n,x=.int k n∧(Lit.int k n).wf=true
 | .b,x=>∃ c,x=.bool c
 | .tx,x=>∃ c:ByteArray,x=.str c∧c.size≤maxLen
 | .sl es,x=>∃ xs,x=.sl es.length xs∧xs.length≤maxLen∧∀ row,row∈xs→fitL es row
def fitL:List Sp→List D→Prop
 | [],l=>l=[]
 | s::ss,l=>∃ x xs,l=x::xs∧s.fit x∧fitL ss xs
end
theorem fitL_len:∀ (ss:List Sp) (l:List D),fitL ss l→l.length=ss.length
 | [],l,h=>by rw [fitL] at h;subst h;rfl
 | s::ss,l,h=>by rw [fitL] at h;obtain ⟨x,xs,rfl,_,h⟩:=h;simp [fitL_len ss xs h]
theorem fitL_append:∀ (a b:List Sp) (l m:List D),fitL a l→fitL b m→fitL (a++b) (l++m)
 | [],b,l,m,h,k=>by rw [fitL] at h;subst h;exact k
 | s::ss,b,l,m,h,k=>by
  rw [fitL] at h;obtain ⟨x,xs,rfl,hx,h⟩:=h
  rw [List.cons_append,fitL]
  exact ⟨x,xs++m,rfl,hx,fitL_append ss b xs m h k⟩
def spFs (P:Program) (rec:TypeId→Option (List Sp)):List Field→Nat→Option (List Sp)
 | [],_=>some []
 | f::fs,o=>match rec f.type with
  | some l=>match spFs P rec fs (o+l.length) with
   | some ls=>bif Nat.beq f.offset o&&Nat.beq (P.cellsOf f.type) l.length then some (l++ls) else none
   | none=>none
  | none=>none
def spT (P:Program):Nat→TypeId→Option (List Sp)
 | 0,_=>none
 | d+1,t=>match P.underlying t with
  | some (.int k)=>some [.i k]
  | some .bool=>some [.b]
  | some .string=>some [.tx]
  | some (.slice e)=>match spT P d e with
   | some l=>bif Nat.beq (P.cellsOf e) l.length&&Nat.ble 1 l.length then some [.sl l] else none
   | none=>none
  | some (.struct fs)=>match spFs P (spT P d) fs.toList 0 with
   | some l=>bif Nat.beq (P.cellsOf t) l.length then some l else none
   | none=>none
  | some (.array n e)=>match spT P d e with
   | some l=>bif Nat.beq (P.cellsOf e) l.length&&Nat.beq (P.cellsOf t) (n*l.length) then some (List.replicate n l).flatten else none
   | none=>none
  | _=>none
def Rd (A:Nat→Prop) (w:World) (sp:List Sp) (cs:List Value):Prop:=
 ∃ xs,fitL sp xs∧cs.length=xs.length∧∀ (i:Nat) (x:D) (v:Value),xs[i]?=some x→cs[i]?=some v→DRel A w x v
theorem Rd.nil {A:Nat→Prop} {w:World}:Rd A w [] []:=⟨[],rfl,rfl,fun i x v h=>by simp at h⟩
theorem Rd.one {A:Nat→Prop} {w:World} {s:Sp} {x:D} {v:Value} (h:s.fit x) (k:DRel A w x v):Rd A w [s] [v]:=
 ⟨[x],by rw [fitL];exact ⟨x,[],rfl,h,rfl⟩,rfl,fun i y u hy hu=>by
  match i with
  | 0=>simp at hy hu;subst hy;subst hu;exact k
  | i+1=>simp at hy⟩
theorem Rd.append {A:Nat→Prop} {w:World} {a b:List Sp} {l m:List Value} (h:Rd A w a l) (k:Rd A w b m):Rd A w (a++b) (l++m):=by
 obtain ⟨xs,h1,h2,h3⟩:=h
 obtain ⟨ys,k1,k2,k3⟩:=k
 refine ⟨xs++ys,fitL_append _ _ _ _ h1 k1,by simp [h2,k2],fun i x v hx hv=>?_⟩
 rw [List.getElem?_append] at hx hv
 by_cases hi:i<xs.length
 ·rw [if_pos hi] at hx;rw [if_pos (by omega)] at hv;exact h3 i x v hx hv
 ·rw [if_neg hi] at hx;rw [if_neg (by omega),h2] at hv;exact k3 _ x v hx hv
section
variable {H:Type} {enc:TypeId×Value→H} {P:Program} {w:World} {spare:Nat→Bool} {held:Bool} {A:Nat→Prop}
theorem spFs_rd {rec:TypeId→Option (List Sp)} {n:Nat} (ih:∀ t sp cs x,rec t=some sp→DataW.trod enc P w 0 spare held n t cs=some x→Rd A w sp cs) (cs:List Value):∀ (fs:List Field) (o:Nat) (l:List Sp),spFs P rec fs o=some l →
  (∀ f,f∈fs→∃ x,DataW.trod enc P w 0 spare held n f.type ((cs.drop f.offset).take (P.cellsOf f.type))=some x)→cs.length=o+l.length→Rd A w l (cs.drop o)
 | [],o,l,h,hx,hl=>by
  simp only [spFs,Option.some.injEq] at h;subst h
  rw [List.drop_eq_nil_of_le (by simp at hl;omega)]
  exact Rd.nil
 | f::fs,o,l,h,hx,hl=>by
  rw [spFs] at h
  cases h1:rec f.type with
  | none=>simp [h1] at h
  | some l1=>
   cases h2:spFs P rec fs (o+l1.length) with
   | none=>simp [h1,h2] at h
   | some ls=>
    simp only [h1,h2] at h
    cases hb:(Nat.beq f.offset o&&Nat.beq (P.cellsOf f.type) l1.length) with
    | false=>simp [hb] at h
    | true=>
     simp only [hb,cond_true,Option.some.injEq] at h
     subst h
     rw [Bool.and_eq_true] at hb
     have e1:=Nat.eq_of_beq_eq_true hb.1
     have e2:=Nat.eq_of_beq_eq_true hb.2
     obtain ⟨x,hx1⟩:=hx f (by simp)
     rw [e1,e2] at hx1
     have r1:=ih _ _ _ _ h1 hx1
     simp at hl
     have r2:=spFs_rd ih cs fs (o+l1.length) ls h2 (fun g hg=>hx g (by simp [hg])) (by omega)
     have:=r1.append r2
     rwa [← List.drop_drop,List.take_append_drop] at this
theorem spA_rd {n:Nat} {e:TypeId} {l:List Sp} (ih:∀ cs x,DataW.trod enc P w 0 spare held n e cs=some x→Rd A w l cs) (cs:List Value) (k:Nat) (hk:∀ i,i<k→∃ x,DataW.trod enc P w 0 spare held n e ((cs.drop (i*l.length)).take l.length)=some x) :
  ∀ (j i:Nat),i+j=k→cs.length=k*l.length→Rd A w (List.replicate j l).flatten (cs.drop (i*l.length))
 | 0,i,h,hl=>by
  rw [List.drop_eq_nil_of_le (by rw [hl];simp at h;subst h;exact Nat.le_refl _)]
  exact Rd.nil
 | j+1,i,h,hl=>by
  obtain ⟨x,hx⟩:=hk i (by omega)
  have r1:=ih _ _ hx
  have r2:=spA_rd ih cs k hk j (i+1) (by omega) hl
  have:=r1.append r2
  rw [Nat.succ_mul,← List.drop_drop,List.take_append_drop] at this
  rwa [List.replicate_succ,List.flatten_cons]
theorem cell_lt {a:Addr} {v:Value} (h:w.cell? a=some v):a.block<w.heap.size∧a.spot=none:=by
 unfold World.cell? at h
 split at h
 ·rename_i c _ _ hc
  refine ⟨?_,?_⟩
  ·exact (Array.getElem?_eq_some_iff.1 hc).1
  ·cases hs:a.spot with
   | none=>rfl
   | some x=>simp [hs] at h
 ·cases h
theorem trod_rd (hA:∀ g,g<w.heap.size→A g):∀ (d:Nat) (t:TypeId) (sp:List Sp) (fuel:Nat) (cs:List Value) (x:DataW H×List MemPlace),spT P d t=some sp→DataW.trod enc P w 0 spare held fuel t cs=some x→Rd A w sp cs
 | 0,t,sp,fuel,cs,x,h,hx=>by simp [spT] at h
 | d+1,t,sp,fuel,cs,x,h,hx=>by
  rw [spT] at h
  cases hu:P.underlying t with
  | none=>simp [hu] at h
  | some u=>
   rw [hu] at h
   cases u with
   | int k=>
    simp only [Option.some.injEq] at h;subst h
    obtain ⟨n,rfl,_,hw⟩:=DataW.trod_int hu hx
    exact Rd.one (by rw [Sp.fit];exact ⟨n,rfl,hw⟩) (.int k n)
   | bool=>
    simp only [Option.some.injEq] at h;subst h
    obtain ⟨n,rfl,_⟩:=DataW.trod_bool hu hx
    exact Rd.one (by rw [Sp.fit];exact ⟨n,rfl⟩) (.bool n)
   | string=>
    simp only [Option.some.injEq] at h;subst h
    obtain ⟨n,rfl,_,hw⟩:=DataW.trod_string hu hx
    exact Rd.one (by rw [Sp.fit];exact ⟨n,rfl,hw⟩) (.str n)
   | «struct» fs=>
    simp only at h
    cases h1:spFs P (spT P d) fs.toList 0 with
    | none=>simp [h1] at h
    | some l=>
     simp only [h1] at h
     cases hb:Nat.beq (P.cellsOf t) l.length with
     | false=>simp [hb] at h
     | true=>
      simp only [hb,cond_true,Option.some.injEq] at h;subst h
      have e:=Nat.eq_of_beq_eq_true hb
      obtain ⟨xs,n,_,_,hl,hlen,hf⟩:=DataW.trod_struct hu hx
      have:=spFs_rd (A:=A) (n:=n) (rec:=spT P d) (fun t sp cs x=>trod_rd hA d t sp n cs x) cs fs.toList 0 l h1 (fun f hf'=>by
       obtain ⟨i,hi,hfi⟩:=List.getElem_of_mem hf'
       have hi':i<fs.size:=by simpa using hi
       have:=hf i f (by rw [Array.getElem?_eq_getElem hi'];simpa using hfi)
       rw [List.getElem?_eq_getElem (by omega)] at this
       exact ⟨_,this⟩) (by omega)
      simpa using this
   | array n e=>
    simp only at h
    cases h1:spT P d e with
    | none=>simp [h1] at h
    | some l=>
     simp only [h1] at h
     cases hb:(Nat.beq (P.cellsOf e) l.length&&Nat.beq (P.cellsOf t) (n*l.length)) with
     | false=>simp [hb] at h
     | true=>
      simp only [hb,cond_true,Option.some.injEq] at h;subst h
      rw [Bool.and_eq_true] at hb
      have e1:=Nat.eq_of_beq_eq_true hb.1
      have e2:=Nat.eq_of_beq_eq_true hb.2
      obtain ⟨xs,m,_,_,hl,hlen,hf⟩:=DataW.trod_array hu hx
      have:=spA_rd (A:=A) (n:=m) (e:=e) (l:=l) (fun cs x hx=>trod_rd hA d e l m cs x h1 hx) cs n (fun i hi=>by
       have:=hf i hi
       rw [List.getElem?_eq_getElem (by omega),e1] at this
       exact ⟨_,this⟩) n 0 (by omega) (by omega)
      simpa using this
   | slice e=>
    simp only at h
    cases h1:spT P d e with
    | none=>simp [h1] at h
    | some l=>
     simp only [h1] at h
     cases hb:(Nat.beq (P.cellsOf e) l.length&&Nat.ble 1 l.length) with
     | false=>simp [hb] at h
     | true=>
      simp only [hb,cond_true,Option.some.injEq] at h;subst h
      rw [Bool.and_eq_true] at hb
      have e1:=Nat.eq_of_beq_eq_true hb.1
      have e2:=Nat.le_of_ble_eq_true hb.2
      rcases DataW.trod_slice hu hx with ⟨rfl,_⟩ | ⟨a,len,cap,elems,rest,n,_,rfl,_,hb,hlc,hcm,hel,hE,_,_⟩
      ·exact Rd.one (x:=.sl l.length []) (by rw [Sp.fit];exact ⟨[],rfl,Nat.zero_le _,fun row h=>by simp at h⟩)
        (.sl l.length [] none 0 (fun _ _=>.nilFunc) (Nat.le_refl _) (Nat.zero_le _) (fun h=>absurd h (by simp)) (fun i row h=>by simp at h) (fun _ _ h=>by cases h) (fun i j row x h=>by simp at h))
      ·have hcs:∀ i,∃ cs xs,i<len→w.cells? 0 (a.add (i*l.length)) l.length=some cs∧fitL l xs∧cs.length=xs.length∧∀ (i:Nat) (x:D) (v:Value),xs[i]?=some x→cs[i]?=some v→DRel A w x v:=by
        intro i
        by_cases hi:i<len
        ·have:=hE i hi
         rw [List.getElem?_eq_getElem (by omega),Option.bind_eq_some_iff,e1] at this
         obtain ⟨cs,k1,k2⟩:=this
         obtain ⟨xs,j1,j2,j3⟩:=trod_rd hA d e l n cs _ h1 k2
         exact ⟨cs,xs,fun _=>⟨k1,j1,j2,j3⟩⟩
        ·exact ⟨[],[],fun h=>absurd h hi⟩
       obtain ⟨cf,hcf⟩:=Classical.axiomOfChoice hcs
       obtain ⟨xf,hxf⟩:=Classical.axiomOfChoice hcf
       have hadd:∀ i,i<len→a.spot=none∧a.block<w.heap.size:=by
        intro i hi
        have h0:=(hxf 0 (by omega)).1
        rw [Nat.zero_mul,show a.add 0=a from rfl] at h0
        obtain ⟨_,hl0,hc0⟩:=World.cells?_some h0
        have:=hc0 0 (by omega)
        rw [show a.add 0=a from rfl,List.getElem?_eq_getElem (by omega)] at this
        exact ⟨(cell_lt this).2,(cell_lt this).1⟩
       have hL:((List.range len).map xf).length=len:=by simp
       refine Rd.one (x:=.sl l.length ((List.range len).map xf)) (by
        rw [Sp.fit]
        refine ⟨_,rfl,by simp;omega,fun row hr=>?_⟩
        rw [List.mem_map] at hr
        obtain ⟨i,hi,rfl⟩:=hr
        exact (hxf i (by simpa using hi)).2.1) ?_
       have key:DRel A w (.sl l.length ((List.range len).map xf)) (.slice (some a) ((List.range len).map xf).length cap):=by
        refine .sl l.length ((List.range len).map xf) (some a) cap (fun i j=>((cf i)[j]?).getD .nilFunc) (by rw [hL];exact hlc) hcm (fun hp=>?_) (fun i row hr=>?_) (fun g o hg i j hi hj=>?_) (fun i j row x hr hx=>?_)
        ·rw [hL] at hp
         obtain ⟨e3,e4⟩:=hadd 0 hp
         refine ⟨a.block,a.off,?_,hA _ e4⟩
         cases a;simp_all
        ·rw [List.getElem?_map] at hr
         cases hi:(List.range len)[i]? with
         | none=>simp [hi] at hr
         | some i'=>
          simp [hi] at hr;subst hr
          have:i'<len:=by have:=List.mem_of_getElem? hi;simpa using this
          exact fitL_len _ _ (hxf i' this).2.1
        ·rw [hL] at hi
         cases hg
         obtain ⟨k1,k2,k3,k4⟩:=hxf i hi
         obtain ⟨_,k5,k6⟩:=World.cells?_some k1
         have:=k6 j hj
         rw [List.getElem?_eq_getElem (by omega)] at this ⊢
         rw [Option.getD_some,← this]
         congr 1
         unfold Addr.add
         by_cases q1:i*l.length=0<;>by_cases q2:j=0<;>simp [q1,q2,Nat.add_assoc]
        ·rw [List.getElem?_map] at hr
         cases hi:(List.range len)[i]? with
         | none=>simp [hi] at hr
         | some i'=>
          have e5:i'=i:=by
           have:=(List.getElem?_eq_some_iff.1 hi)
           obtain ⟨_,h2⟩:=this
           simpa using h2.symm
          subst e5
          simp [hi] at hr;subst hr
          have hlt:i'<len:=by have:=List.mem_of_getElem? hi;simpa using this
          obtain ⟨k1,k2,k3,k4⟩:=hxf i' hlt
          have hj:j<(cf i').length:=by have:=(List.getElem?_eq_some_iff.1 hx).1;omega
          rw [List.getElem?_eq_getElem hj,Option.getD_some]
          exact k4 j x _ hx (List.getElem?_eq_getElem hj)
       rw [hL] at key
       exact key
   | _=>simp at h
end
end Go.Abs
namespace Go.Abs
open Go.ChangeShapes Go.WideShapes Go.ChangeAt Go.WideMaps Go.WideElems Go.RowKit
def cx0 (W:World):Cx:=⟨fun _=>none,fun g=>g<W.heap.size,fun _=>False,0⟩
def GlOk (G:Gl) (W:World):Prop:=∀ g row,look G g=some row→g<W.heap.size∧∀ (j:Nat) (x:D),row[j]?=some x→∃ cv,W.cell? ⟨g,j,none⟩=some cv∧DRel (fun g=>g<W.heap.size) W x cv
abbrev ArgR (W:World) (x:V) (v:Value):Prop:=VRel (cx0 W) (look ([]:List (Nat×Blk))) (fun r=>r<0) W x v
theorem scall_calls {P:Program} {G:Gl} {f:Nat} {vs:List V} {W:World} {args:Array Value} (h:SCall P G f vs [] 0 Fr.emp (.d (.bool true)) [] 0 Fr.emp) (hG:GlOk G W) (hlen:args.size=vs.length)
  (hv:∀ (i:Nat) (x:V) (v:Value),vs[i]?=some x→args[i]?=some v→ArgR W x v):Calls P f args W fun e W'=>e=.returned (.bool true)∧Below W.heap.size W W':=by
 rw [← callsIn_wide (n:=0)]
 refine CallsIn.mono (h (cx0 W) W args hlen hv ?_) fun e W' hr=>?_
 ·exact {
   lt:=fun r b h=>by cases h
   pl:=fun r b h=>by cases h
   inj:=fun r r' b b' g m m' h=>by cases h
   nA:=fun r b g m h=>by cases h
   nO:=fun r b g m h=>by cases h
   AO:=fun g _ h=>h
   Alt:=fun g h=>h
   Olt:=fun g h=>h.elim
   fr:=fun g h=>h
   gl:=fun g row h=>hG g row h }
 ·obtain ⟨rv,c',rfl,hr,_,_,hx⟩:=hr
  have e:rv=.bool true:=by cases hr with | d _ _ h=>cases h;rfl
  subst e
  exact ⟨rfl,hx.os,hx.tape,hx.output,hx.size,fun k hk=>hx.same k hk (fun r b m h=>by cases h) (fun h=>h)⟩
section
variable {H:Type} {enc:TypeId×Value→H} {P:Program} {W W':World}
theorem trodAll_stays (hl:laidOutB P=true) (hb:Below W.heap.size W W') (sp:Nat→Bool):∀ (ts:List TypeId) (vs:List Value) (ds:List (DataW H)) (ps:List MemPlace),(ts.all fun t=>P.readableRec t&&decide (t<P.types.size))=true →
  DataW.TrodAll enc P W 0 (fun _=>true) true ts vs ds ps→(∀ x,x∈ps→x.block<W.heap.size∧sp x.block=true)→DataW.TrodAll enc P W' 0 sp true ts vs ds ps
 | [],[],[],ps,_,h,_=>h
 | t::ts,v::vs,d::ds,ps,hr,h,hp=>by
  obtain ⟨p,q,h1,h2,rfl⟩:=h
  simp only [List.all_cons,Bool.and_eq_true,decide_eq_true_eq] at hr
  exact ⟨p,q,WideElems.Trod_stays hl hr.1.1 hr.1.2 h1 (fun x hx=>hb.same (hp x (by simp [hx])).1) (fun x hx=>(hp x (by simp [hx])).2),
   trodAll_stays hl hb sp ts vs ds q (by simpa using hr.2) h2 (fun x hx=>hp x (by simp [hx])),rfl⟩
 | [],[],_::_,_,_,h,_=>h.elim
 | [],_::_,_,_,_,h,_=>h.elim
 | _::_,[],_,_,_,h,_=>h.elim
 | _::_,_::_,[],_,_,h,_=>h.elim
theorem trodAll_len:∀ (ts:List TypeId) (vs:List Value) (ds:List (DataW H)) (ps:List MemPlace),DataW.TrodAll enc P W 0 (fun _=>true) true ts vs ds ps→ds.length=ts.length
 | [],[],[],ps,h=>rfl
 | t::ts,v::vs,d::ds,ps,h=>by obtain ⟨p,q,h1,h2,rfl⟩:=h;simp [trodAll_len ts vs ds q h2]
 | [],[],_::_,_,h=>h.elim
 | [],_::_,_,_,h=>h.elim
 | _::_,[],_,_,h=>h.elim
 | _::_,_::_,[],_,h=>h.elim
theorem card_post {fn:Func} {s:ChangeSpec} {args:Array Value} {ds gs:List (DataW H)} {before:List MemPlace} {tb:TypeId} (hl:laidOutB P=true) (hb:Below W.heap.size W W')
  (hr:(fn.params.toList.all fun t=>P.readableRec t&&decide (t<P.types.size))=true) (hsv:s.vars=[]) (hfn:∀ l:List (DataW H),l.length=fn.params.toList.length→s.fn H l={ results:=[.lit (.bool true)],args:=l })
  (hres:fn.resultTypes=#[tb]) (htb:P.underlying tb=some .bool) (hW:DataW.Whole enc P fn.params.toList s.vars false W args.toList ds gs before) :
  s.post enc P fn false true false false W args (.bool true) W':=by
 have hlt:=hW.lt
 have hW':=hW
 obtain ⟨p,q,hA,hV,rfl,_,_⟩:=hW
 rw [hsv] at hV
 obtain ⟨rfl,rfl⟩:=trodVars_none hV
 have e:=hfn ds (trodAll_len _ _ _ _ hA)
 refine ⟨ds,[],p++[],[],p,[],hW',?_,?_,?_,hb.frame _,fun h=>by cases h⟩
 ·rw [List.append_nil,e,hres]
  exact trodAll_mk1 (shut_bool htb _)
 ·rw [List.append_nil,e]
  exact trodAll_stays hl hb _ _ _ _ _ hr hA (fun x hx=>⟨by simpa using hlt x (by simp [hx]),by simpa using hlt x (by simp [hx])⟩)
 ·rw [List.append_nil,e,hsv]
  rfl
theorem arg_agg {r:Reach} {b0:Nat} {t:TypeId} {u:TypeDesc} {sp:List Sp} {v:Value} {d:DataW H} {ps:List MemPlace} (ht:P.underlying t=some u) (hu:aggD u=true) (n:Nat) (hsp:spT P n t=some sp) (hval:Value.okWide P W r b0 t v) (hd:DataW.Trod enc P W 0 (fun _=>true) true t v d ps) :
  ∃ xs,fitL sp xs∧ArgR W (.agg (xs.map .d)) v:=by
 obtain ⟨fuel,hd⟩:=hd
 obtain ⟨xs,h1,h2,h3⟩:=trod_rd (A:=fun g=>g<W.heap.size) (fun _ h=>h) n t sp fuel _ _ hsp hd
 have:∃ cs,v=.agg cs:=by
  unfold Value.okWide at hval
  rw [ht] at hval
  cases u<;>simp [aggD] at hu
  ·obtain ⟨cs,h,_⟩:=hval;exact ⟨cs,h⟩
  ·obtain ⟨cs,h,_⟩:=hval;exact ⟨cs,h⟩
 obtain ⟨cs,rfl⟩:=this
 refine ⟨xs,h1,?_⟩
 have hk:∀ (i:Nat) (x:V) (v:Value),(xs.map V.d)[i]?=some x→cs.toList[i]?=some v→ArgR W x v:=by
  intro i x v hx hv
  rw [List.getElem?_map] at hx
  cases hy:xs[i]? with
  | none=>simp [hy] at hx
  | some y=>
   simp [hy] at hx;subst hx
   exact .d _ _ (h3 i y v hy hv)
 have:=VRel.agg (c:=cx0 W) (H:=look ([]:List (Nat×Blk))) (U:=fun r=>r<0) (w:=W) (xs.map .d) cs.toList (by simpa [Value.cells] using h2) hk (fun v hv=>by
  obtain ⟨i,hi,rfl⟩:=List.getElem_of_mem hv
  have h2':cs.toList.length=xs.length:=h2
  exact (h3 i _ _ (List.getElem?_eq_getElem (by omega)) (List.getElem?_eq_getElem hi)).oneCell)
 exact this
end
end Go.Abs
namespace Go.Abs
section
variable {P:Program} {G:Gl} {nt:Nat}
def bAndN (x y:Int):Int:=wr (BitVec.ofInt 64 x &&& ~~~(BitVec.ofInt 64 y)).toNat
theorem s_andN {x y:Opd} {p q:Int} {fr:Fr}:LStp P G nt (.bin .andNot x y) [(x,.d (.int .i64 p)),(y,.d (.int .i64 q))] [] (.d (.int .i64 (bAndN p q))) ⟨[],[]⟩ fr fr:=
 s_binop (fun t w=>by
  have : binOp .andNot t (.int .i64 p) (.int .i64 q) = if IntKind.i64 ≠ IntKind.i64 then (stuck "BinOp: operands of different kinds" : Sem Value) else Op.intBits .andNot .i64 p q := rfl
  rw [this];simp [Op.intBits,bAndN,wr];rfl) (fun _ _ _ _=>.d _ _ (.int _ _))
end
section
variable {P:Program} {G:Gl} {nt:Nat} {F:Fence} {K:St→List SD→Prop} {rest:List IOper} {σ:St} {sds:List SD} {g:Option (Nat×Bool)} {aft:List Nat}
theorem r_andN {d:Option Nat} {x y:Opd} {p q:Int} (hg:Wants σ g) (hx:ev G (look σ.env) x=some (.d (.int .i64 p))) (hy:ev G (look σ.env) y=some (.d (.int .i64 q)))
  (k:RunC P G nt K rest (σ.put d (.d (.int .i64 (bAndN p q)))) (sds++[sdOf g [(x,.d (.int .i64 p)),(y,.d (.int .i64 q))] [] ⟨[],[]⟩])):RunC P G nt K (⟨d,g,.bin .andNot x y,aft⟩::rest) σ sds:=
 .val s_andN hg ⟨hx,hy,trivial⟩ trivial k
end
end Go.Abs
namespace Go.Abs
abbrev sT (e:List (Nat×V)) (h:List (Nat×Blk)) (n m:Nat):St:=⟨e,h,n,Fr.emp,[],m⟩
abbrev jI (n:Int):V:=.d (I n)
abbrev pR (t r:Nat):Nat×V:=(t,.ptr r 0)
abbrev tP (t:Nat):Opd:=.tmp t
abbrev kP (n:Int):Opd:=.cst (.d (.int .i64 n))
abbrev oP (t:Nat) (x:IOp):IOper:=⟨some t,none,x,[]⟩
abbrev sP (x:IOp):IOper:=⟨none,none,x,[]⟩
abbrev rG (l:List IOper):ICode:=.reg false l
section
variable {P:Program} {G:Gl} {nt:Nat}
theorem Au {ops:List IOper} {Q:Post} {σ:St} (n:Nat) (σ1:St) (k:RW P G nt Fence.wide (ops.drop n) Q σ1) (h:segB G [] false (ops.take n) σ (keysE σ1.env) (keysL σ1.heap) σ1.nx=some σ1:=by kernel_rfl):RW P G nt Fence.wide ops Q σ:=RW.au fokW n [] σ1 h k
theorem Sa {d:Bool} {ops:List IOper} {y:ICode} {Q:Post} {σ:St} (σ1:St) (k:AW P G nt Fence.wide y Q σ1) (h:segB G [] d ops σ (keysE σ1.env) (keysL σ1.heap) σ1.nx=some σ1:=by kernel_rfl):AW P G nt Fence.wide (.seq (.reg d ops) y) Q σ:=AW.sa fokW [] σ1 h k
theorem Ra {d:Bool} {ops:List IOper} {Q:Post} {σ:St} (σ1:St) (k:Q .normal σ1) (h:segB G [] d ops σ (keysE σ1.env) (keysL σ1.heap) σ1.nx=some σ1:=by kernel_rfl):AW P G nt Fence.wide (.reg d ops) Q σ:=AW.ra fokW [] σ1 h k
theorem aX {K:St→List SD→Prop} {ops:List IOper} {σ:St} {sds:List SD} (n:Nat) (σ1:St) (k:RunC P G nt (Kc K) (ops.drop n) σ1 (sds++sdsC G (ops.take n) σ)) (h:autR G (ops.take n) σ (keysE σ1.env)=some σ1:=by kernel_rfl):RunC P G nt (Kc K) ops σ sds:=RunC.auX n σ1 h k
theorem Fi {ops:List IOper} {Q:Post} {σ:St} {sds:List SD} (σ1:St) (k:Q .normal σ1) (hok:okD ops sds=true:=by kernel_rfl) (h:keepS σ (keysE σ1.env) (keysL σ1.heap) σ1.nx=some σ1:=by kernel_rfl):RunC P G nt (Kd ops Q) [] σ sds:=RunC.fin σ1 hok h k
theorem rC {d:Option Nat} {f:Nat} {args:List Opd} {vs:List V} {r:V} {ops:List IOper} {aft:List Nat} {Q:Post} {σ:St} (h:PCall P G f vs r) (k:RW P G nt Fence.wide ops Q (σ.put d r)) (hx:evs G (look σ.env) args=some vs:=by exact rfl) (hl:Nat.beq args.length vs.length=true:=by exact rfl) (hok:V.okR.okRs 0 (fun _=>false) vs=true:=by exact rfl):RW P G nt Fence.wide (⟨d,none,.call f args,aft⟩::ops) Q σ:=
 RW.one fokW (r_call trivial hx h hl hok (r_end k))
theorem rL {d:Option Nat} {x:Opd} {α:Type} {f:α→List D} {es:Nat} {xs:List α} {ops:List IOper} {aft:List Nat} {Q:Post} {σ:St} (hx:ev G (look σ.env) x=some (.d (.sl es (List.map f xs)))) (k:RW P G nt Fence.wide ops Q (σ.put d (.d (.int .i64 (xs.length:Int))))):RW P G nt Fence.wide (⟨d,none,.len x,aft⟩::ops) Q σ:=
 RW.one fokW (r_lenX trivial hx lenm (r_end k))
theorem rT {F:Fence} {rs:List IRes} {r:V} {H':List (Nat×Blk)} {nx' nx0:Nat} {fr':Fr} {σ:St} {vs:List V} {Q:Post} (hR:∀ σ,RetQ rs r H' nx' fr' nx0 σ→Q .ret σ) (hv:ResVs σ rs vs) (hz:Frz (hzOf σ.heap H') (retV vs) r:=by exact .refl _) (hfr:σ.fr=fr':=by exact rfl) (hH:selH σ.heap (keysL H')=some H':=by kernel_rfl) (hb:endB σ r H' nx' nx0=true:=by kernel_rfl):AW P G nt F .ret Q σ:=
 AW.ret (hR _ (retX hv hz hfr hH hb))
end
end Go.Abs
namespace Go.Abs
def arrB (l:List Bool):Nat→Bool:=fun k=>l.getD k false
def subA {α:Type} (n:Nat) (w:Nat→α) (lo hi:Int):Option (List α):=bif decide (0≤lo)&&(decide (lo≤hi)&&(decide (hi≤(n:Int))&&decide (lo<(n:Int)))) then some ((List.range' lo.toNat (hi.toNat - lo.toNat)).map w) else none
theorem subA_ok {α:Type} {n:Nat} {w:Nat→α} {lo hi:Int} {l:List α} (h:subA n w lo hi=some l):0≤lo∧lo≤hi∧hi≤(n:Int)∧lo<(n:Int)∧(List.range' lo.toNat (hi.toNat - lo.toNat)).map w=l:=by
 unfold subA at h
 cases hr:decide (0≤lo)&&(decide (lo≤hi)&&(decide (hi≤(n:Int))&&decide (lo<(n:Int)))) with
 | true=>
  rw [hr] at h;cases h
  simp only [Bool.and_eq_true,decide_eq_true_eq] at hr
  exact ⟨hr.1,hr.2.1,hr.2.2.1,hr.2.2.2,rfl⟩
 | false=>rw [hr] at h;cases h
inductive Brw (H:Hp):V→V→Prop where
 | refl (v:V):Brw H v v
 | arr {r off n k T es:Nat} {cs:List V} {xs:List (List D)} (hr:H r=some (.var T cs)) (hl:xs.length=n) (hk:n≤k) (hes:∀ (i:Nat) row,xs[i]?=some row→row.length=es)
   (hc:∀ (i j:Nat) row x,xs[i]?=some row→row[j]?=some x→cs[off+i*es+j]?=some (.d x)):Brw H (.vsl r off n k) (.d (.sl es xs))
def BrwL (H:Hp):List V→List V→Prop
 | [],[]=>True
 | x::xs,y::ys=>Brw H x y∧BrwL H xs ys
 | _,_=>False
theorem BrwL.get {H:Hp}:∀ {cs cs':List V},BrwL H cs cs'→cs'.length=cs.length∧∀ (i:Nat) (x y:V),cs[i]?=some x→cs'[i]?=some y→Brw H x y
 | [],[],_=>⟨rfl,fun i x y hx=>by simp at hx⟩
 | x::xs,y::ys,⟨h,k⟩=>by
  obtain ⟨h1,h2⟩:=BrwL.get k
  refine ⟨by simp [h1],fun i a b ha hb=>?_⟩
  cases i with
  | zero=>simp at ha hb;subst ha hb;exact h
  | succ i=>exact h2 i a b (by simpa using ha) (by simpa using hb)
theorem brw_arr {α:Type} {H:Hp} {r T n k:Nat} {lo hi:Int} {w:Nat→α} {c:α→D} {l:List α} (h:subA n w lo hi=some l) (hr:H r=some (.var T ((List.range n).map fun i=>.d (c (w i))))) (hk:hi.toNat - lo.toNat≤k):Brw H (.vsl r (0+lo.toNat*1) (hi.toNat - lo.toNat) k) (.d (.sl 1 (List.map (fun a=>[c a]) l))):=by
 obtain ⟨h0,h1,h2,h3,rfl⟩:=subA_ok h
 refine .arr hr (by simp) hk (fun i row hi'=>?_) (fun i j row x hi' hx=>?_)
 ·rw [List.getElem?_map,Option.map_eq_some_iff] at hi'
  obtain ⟨a,_,rfl⟩:=hi';rfl
 ·rw [List.getElem?_map,Option.map_eq_some_iff] at hi'
  obtain ⟨a,ha,rfl⟩:=hi'
  rw [List.getElem?_map,Option.map_eq_some_iff] at ha
  obtain ⟨m,hm,rfl⟩:=ha
  have hi2:i<hi.toNat - lo.toNat:=by have:=(List.getElem?_eq_some_iff.1 hm).1;simpa using this
  rw [List.getElem?_range' hi2] at hm
  cases hm
  cases j with
  | zero=>
   simp at hx;subst hx
   have e:0+lo.toNat*1+i*1+0=lo.toNat+i:=by omega
   rw [e,List.getElem?_map,List.getElem?_range (by omega)]
   simp
  | succ j=>simp at hx
section
variable {P:Program} {G:Gl} {nt:Nat}
theorem s_slcA {n es:Nat} {x lo hi:Opd} {r off T:Nat} {cs:List V} {kl kh:IntKind} {l h:Int} {fr:Fr} (h0:0≤l) (h1:l≤h) (h2:h≤(n:Int)) (h3:l<(n:Int)) (hn:n≤maxLen) :
  LStp P G nt (.slcA n es x lo hi) [(x,.ptr r off),(lo,.d (.int kl l)),(hi,.d (.int kh h))] [(r,.var T cs)] (.vsl r (off+l.toNat*es) (h.toNat - l.toNat) (n - l.toNat)) ⟨[],[]⟩ fr fr:=by
 refine .pure fun U E H o c ac w ht hR hE hH=>?_
 generalize hop:o.op=op at ht
 cases ht with
 | @slcA t e n0 j xo lo1 hi1 _ _ _ ht hj hx hl hh=>
  obtain ⟨g,m,hfm,ha⟩:=(ev_ok hR hx hE.1).ptr_inv hH.1
  have el:=(ev_ok hR hl hE.2.1).int_inv
  have eh:=(ev_ok hR hh hE.2.2.1).int_inv
  have hne:¬ n=l.toNat:=by omega
  refine ⟨by simp,.slice (some ⟨g,off+l.toNat*j.size,none⟩) (h.toNat - l.toNat) (n - l.toNat),?_,.vsl r _ _ _ T g m cs (by omega) hH.1 hfm⟩
  have hb1:l≤(h.toNat:Int):=by omega
  simp only [execOp,hop,Instr.sliceAt,run_underlying ht,Sem.run_bind,Result.andThen_ok,ha,el,eh,Option.map_some,Option.map_none,Instr.sureAddr,Instr.sliceBounds,run_bound (show (0:Int)≤h by omega) h2,run_bound h0 hb1,run_sizeOf hj,Sem.run_pure,hne,if_false,add_none,Bool.false_eq_true]
 | @slcA0 t e n0 j xo hi1 _ _ ht hj hx hh=>
  obtain ⟨g,m,hfm,ha⟩:=(ev_ok hR hx hE.1).ptr_inv hH.1
  have el:(Value.int .i64 0)=.int kl l:=by
   have:=hE.2.1
   simp only [ev] at this
   cases this;rfl
  cases el
  have eh:=(ev_ok hR hh hE.2.2.1).int_inv
  have hne:¬ n=(0:Int).toNat:=by intro h;rw [h] at h3;simp at h3
  refine ⟨by simp,.slice (some ⟨g,off+(0:Int).toNat*j.size,none⟩) (h.toNat - (0:Int).toNat) (n - (0:Int).toNat),?_,.vsl r _ _ _ T g m cs (by omega) hH.1 hfm⟩
  have hne':¬ n=0:=by simpa using hne
  simp only [execOp,hop,Instr.sliceAt,run_underlying ht,Sem.run_bind,Result.andThen_ok,ha,eh,Option.map_some,Option.map_none,Instr.sureAddr,Instr.sliceBounds,run_bound (show (0:Int)≤h by omega) h2,run_sizeOf hj,Sem.run_pure,hne',if_false,add_none,Bool.false_eq_true]
  simp
theorem s_callB {f:Nat} {args:List Opd} {vs vs':List V} {rs:List (Nat×Blk)} {r:V} {fr:Fr} (h:PCall P G f vs' r) (hz:BrwL (look rs) vs vs') (hrs:∀ q b,look rs q=some b→(q,b)∈rs) (hl:args.length=vs.length)
  (hok:V.okR.okRs 0 (fun _=>false) vs'=true) (hns:r.noSl=true):LStp P G nt (.call f args) (args.zip vs) rs r ⟨[],[]⟩ fr fr:=by
 intro U E H o F c a w next Q ht hF hR hE hH hn k
 generalize hop:o.op=op at ht
 cases ht with
 | @call _ xs ts _ hx hfn=>
  obtain ⟨hlen,hrel⟩:=evs_ok hR hx (Evs.unzip hl hE)
  obtain ⟨hzl,hzg⟩:=hz.get
  have hsub:∀ q b,look rs q=some b→H q=some b:=by
   intro q b hq
   have hm:=hrs q b hq
   clear hrs hq hz hzl hzg
   induction rs with
   | nil=>cases hm
   | cons p l ih=>
    cases hm with
    | head=>exact hH.1
    | tail _ hm=>exact ih hH.2 hm
  have hh:=hR.h
  let A1:Nat→Prop:=fun g=>c.A g∨∃ q T cs m,H q=some (.var T cs)∧c.fm q=some (g,m)
  have hT:∀ g,(∃ q T cs m,H q=some (.var T cs)∧c.fm q=some (g,m))→g<w.heap.size:=by
   rintro g ⟨q,T,cs,m,h1,h2⟩
   obtain ⟨cur,h4,_⟩:=hh.var h1 h2
   exact (Array.getElem?_eq_some_iff.1 h4).1
  refine wp_enter hF (by simp [hop]) (call_run hop hfn w) (h { fm:=fun _=>none,A:=A1,O:=fun _=>False,y:=c.y } w _ (by rw [Array.size_map,hzl];simpa using hlen) (fun i x v hx hv=>?_) ?_) ?_
  ·have hi:i<vs.length:=by have:=(List.getElem?_eq_some_iff.1 hx).1;omega
   have h1:=hrel i _ v (List.getElem?_eq_getElem hi) (by simpa using hv)
   have h2:=hzg i _ x (List.getElem?_eq_getElem hi) hx
   have hk:=okRs_get _ i x hok hx
   clear hv hx
   generalize vs[i]=u at h1 h2
   cases h2 with
   | refl _=>exact no_sub h1 hk _ (fun _ h=>.inl h) rfl
   | @arr q off n k0 T es cs xs hr hl0 hk0 hes hc=>
    cases h1 with
    | vsl _ _ _ _ T' g m cs' hb hH' hf=>
     have hr':=hsub _ _ hr
     obtain ⟨cur,hg,hsz,hcur⟩:=hh.var hr' hf
     subst hl0
     refine .d _ _ (.sl es xs _ _ (fun i j=>(cur[off+i*es+j]?).getD .nilFunc) hk0 hb (fun _=>⟨g,off,rfl,.inr ⟨q,T,cs,m,hr',hf⟩⟩) hes (fun g0 o0 e i j hi hj=>?_) (fun i j row x hi hx=>?_))
     ·cases e
      have hrow:=hes i _ (List.getElem?_eq_getElem hi)
      have hgt:=hc i j xs[i] _ (List.getElem?_eq_getElem hi) (List.getElem?_eq_getElem (by omega))
      have hlt:off+i*es+j<cur.size:=by rw [hsz];exact (List.getElem?_eq_some_iff.1 hgt).1
      rw [cell_at hg,Array.getElem?_eq_getElem hlt];rfl
     ·have hgt:=hc i j row x hi hx
      have hlt:off+i*es+j<cur.size:=by rw [hsz];exact (List.getElem?_eq_some_iff.1 hgt).1
      have:=(hcur _ _ cur[off+i*es+j] hgt (Array.getElem?_eq_getElem hlt)).1
      rw [Array.getElem?_eq_getElem hlt]
      cases this with | d _ _ hdd=>exact hdd.mono (fun _ h=>.inl h) (fun _ _=>rfl)
  ·exact hh.callee (fun g hg=>.inl hg) (fun g hg=>hg.elim (hh.Alt g) (hT g))
  ·rintro e w' ⟨rv,c',rfl,hv,hs,hh',hx'⟩
   refine ⟨rv,rfl,?_⟩
   obtain ⟨h1,h2,h3⟩:=HRel.after (c0:=c') hR.h (.inr trivial) trivial (A1:=c.A) (fun _ h=>h) (fun g hg=>.inl hg) (fun g hg=>Nat.lt_of_lt_of_le (hh.Alt g hg) hx'.size)
    (fun g hg=>hx'.same g hg (fun r b m h=>(look_nil h).elim) (fun h=>h)) hx'.size hx'.os hx'.tape hx'.output
   refine k { c with A:=c.A } rv w' ?_ ?_ (hv.noSl hns) ?_
   ·simpa [hpOf,usOf_nil] using h1
   ·simpa [hpOf,usOf_nil] using hR.step h1 h2 h3
   ·simpa [hpOf] using h3
end
section
variable {P:Program} {G:Gl} {nt:Nat} {F:Fence} {K:St→List SD→Prop} {rest:List IOper} {σ:St} {sds:List SD} {g:Option (Nat×Bool)} {aft:List Nat}
theorem r_slcA {α:Type} {d:Option Nat} {n es:Nat} {x lo hi:Opd} {r off T:Nat} {cs:List V} {kl kh:IntKind} {l h:Int} {w:Nat→α} {ys:List α} (hs:subA n w l h=some ys) (hg:Wants σ g) (hx:ev G (look σ.env) x=some (.ptr r off)) (hl:ev G (look σ.env) lo=some (.d (.int kl l))) (hh:ev G (look σ.env) hi=some (.d (.int kh h))) (hr:look σ.heap r=some (.var T cs)) (hn:Nat.ble n maxLen=true)
  (k:RunC P G nt K rest (σ.put d (.vsl r (off+l.toNat*es) (h.toNat - l.toNat) (n - l.toNat))) (sds++[sdOf g [(x,.ptr r off),(lo,.d (.int kl l)),(hi,.d (.int kh h))] [(r,.var T cs)] ⟨[],[]⟩])):RunC P G nt K (⟨d,g,.slcA n es x lo hi,aft⟩::rest) σ sds:=by
 obtain ⟨h0,h1,h2,h3,_⟩:=subA_ok hs
 exact .val (s_slcA h0 h1 h2 h3 (Nat.le_of_ble_eq_true hn)) hg ⟨hx,hl,hh,trivial⟩ ⟨hr,trivial⟩ k
theorem r_callB {d:Option Nat} {f:Nat} {args:List Opd} {vs vs':List V} {rs:List (Nat×Blk)} {r:V} (hg:Wants σ g) (hx:evs G (look σ.env) args=some vs) (h:PCall P G f vs' r) (hrd:Rds (look σ.heap) rs) (hz:BrwL (look rs) vs vs') (hl:Nat.beq args.length vs.length=true) (hok:V.okR.okRs 0 (fun _=>false) vs'=true) (hns:r.noSl=true)
  (k:RunC P G nt K rest (σ.put d r) (sds++[sdOf g (args.zip vs) rs ⟨[],[]⟩])):RunC P G nt K (⟨d,g,.call f args,aft⟩::rest) σ sds:=
 .val (s_callB h hz (fun q b hq=>look_mem hq) (Nat.eq_of_beq_eq_true hl) hok hns) hg (Evs.zip hx) hrd k
end
end Go.Abs
namespace Go.Abs
def D.pl:D→Bool
 | .int _ _=>true
 | .bool _=>true
 | _=>false
def DV.pl:DV→Bool
 | .c x=>x.pl
 | .a xs=>xs.all D.pl
theorem DRel.plAny {A:Nat→Prop} {w:World} {x:D} {v:Value} (h:DRel A w x v) (hp:x.pl=true) (A':Nat→Prop) (w':World):DRel A' w' x v:=by
 cases h<;>simp [D.pl] at hp
 ·exact .int _ _
 ·exact .bool _
theorem DVRel.plAny {A:Nat→Prop} {w:World} {x:DV} {v:Value} (h:DVRel A w x v) (hp:x.pl=true) (A':Nat→Prop) (w':World):DVRel A' w' x v:=by
 cases h with
 | c x v h=>exact .c x v (h.plAny hp A' w')
 | a xs vs hl h=>exact .a xs vs hl (fun i x v hx hv=>(h i x v hx hv).plAny (List.all_eq_true.1 hp x (List.mem_of_getElem? hx)) A' w')
def MapI (Im:List (DV×DV)→Prop) (en:Array MapEntry):Prop:=∃ es,Im es∧en.size=es.length ∧
 ∀ (i:Nat) (k v:DV) (e:MapEntry),es[i]?=some (k,v)→en[i]?=some e→∀ A w,DVRel A w k e.key∧DVRel A w v e.val
def ImPl (Im:List (DV×DV)→Prop):Prop:=∀ es,Im es→∀ k v,(k,v)∈es→k.pl=true∧v.pl=true
theorem MapI.of {Im:List (DV×DV)→Prop} (hp:ImPl Im) {c:Cx} {H:Hp} {U:Nat→Prop} {w:World} {g m:Nat} {es:List (DV×DV)} (hI:Im es) (hB:BRel c H U w g m (.mp es)):∃ en clock,w.heap[g]?=some (.map en clock)∧MapI Im en:=by
 obtain ⟨en,clock,h1,h2,h3⟩:=hB
 exact ⟨en,clock,h1,es,hI,h2,fun i k v e hk he A' w'=>⟨(h3 i k v e hk he).1.plAny (hp es hI k v (List.mem_of_getElem? hk)).1 A' w',(h3 i k v e hk he).2.plAny (hp es hI k v (List.mem_of_getElem? hk)).2 A' w'⟩⟩
def FrTop (g:Nat) (I:Array MapEntry→Prop):Fr:=⟨fun _ _ O w=>O g∧∃ en clock,w.heap[g]?=some (.map en clock)∧I en,
 fun _ _ _ _ _ _ h _ hw=>⟨h.1,by rw [hw g (.inr h.1)];exact h.2⟩⟩
theorem FrTop.ok (g:Nat) (I:Array MapEntry→Prop):FrW g I (FrTop g I):=⟨fun h=>h,fun _ h _ hg=>⟨h.1,hg⟩⟩
def V.wl (q g:Nat):V→V
 | .map r=>bif Nat.beq r q then .wmp g else .map r
 | .clo f first caps=>.clo f (wls q g first) (wls q g caps)
 | .agg cs=>.agg (wls q g cs)
 | .tup cs=>.tup (wls q g cs)
 | v=>v
where wls (q g:Nat):List V→List V
 | []=>[]
 | v::vs=>V.wl q g v::wls q g vs
theorem wls_map (q g:Nat):∀ vs:List V,V.wl.wls q g vs=vs.map (V.wl q g)
 | []=>rfl
 | v::vs=>by simp only [V.wl.wls,List.map_cons,wls_map q g vs]
def Blk.wl (q g:Nat):Blk→Blk
 | .var T cs=>.var T (V.wl.wls q g cs)
 | .arr T cs=>.arr T (V.wl.wls q g cs)
 | b=>b
def wlE (q g:Nat):List (Nat×V)→List (Nat×V)
 | []=>[]
 | (t,v)::l=>(t,v.wl q g)::wlE q g l
def wlH (q g:Nat):List (Nat×Blk)→List (Nat×Blk)
 | []=>[]
 | (r,b)::l=>bif Nat.beq r q then wlH q g l else (r,b.wl q g)::wlH q g l
theorem look_wlE (q g:Nat):∀ (l:List (Nat×V)) (t:Nat),look (wlE q g l) t=(look l t).map (V.wl q g)
 | [],t=>rfl
 | (k,v)::l,t=>by
  rw [wlE,look_cons,look_cons,look_wlE q g l t]
  split<;>rfl
theorem look_wlH (q g:Nat):∀ (l:List (Nat×Blk)) (r:Nat),look (wlH q g l) r=if r=q then none else (look l r).map (Blk.wl q g)
 | [],r=>by simp [wlH,look]
 | (k,b)::l,r=>by
  rw [wlH]
  cases hk:Nat.beq k q with
  | true=>
   have hk:=Nat.eq_of_beq_eq_true hk
   rw [cond_true,look_wlH q g l r,look_cons]
   by_cases e:r=q
   ·rw [if_pos e,if_pos e]
   ·rw [if_neg e,if_neg e,if_neg (fun h=>e (h.symm.trans hk))]
  | false=>
   have hne:k≠q:=fun e=>by rw [e,Nat.beq_refl] at hk;cases hk
   rw [cond_false,look_cons,look_cons,look_wlH q g l r]
   by_cases e:k=r
   ·rw [if_pos e,if_pos e,if_neg (fun h=>hne (e.trans h))];rfl
   ·rw [if_neg e,if_neg e]
theorem VRel.hide {c c2:Cx} {H H2:Hp} {U:Nat→Prop} {w:World} {q g m0:Nat} {es0:List (DV×DV)} (hfm:∀ r,r≠q→c2.fm r=c.fm r) (hA:∀ k,c.A k→c2.A k) (hy:c2.y=c.y) (hq:H q=some (.mp es0)) (hqf:c.fm q=some (g,m0))
  (hH:∀ r,r≠q→H2 r=(H r).map (Blk.wl q g)) (hq2:H2 q=none) {v:V} {cv:Value} (h:VRel c H U w v cv):VRel c2 H2 U w (v.wl q g) cv:=by
 have len:∀ cs:List V,(V.wl.wls q g cs).length=cs.length:=fun cs=>by rw [wls_map,List.length_map]
 have list:∀ (cs:List V) (vs:List Value),(∀ (i:Nat) x v,cs[i]?=some x→vs[i]?=some v→VRel c2 H2 U w (x.wl q g) v)→∀ (i:Nat) x v,(V.wl.wls q g cs)[i]?=some x→vs[i]?=some v→VRel c2 H2 U w x v:=fun cs vs h i x v hx hv=>by
  rw [wls_map,List.getElem?_map,Option.map_eq_some_iff] at hx
  obtain ⟨y,hy,rfl⟩:=hx
  exact h i y v hy hv
 have varOf:∀ r T cs,H r=some (.var T cs)→r≠q∧H2 r=some (.var T (V.wl.wls q g cs)):=fun r T cs hr=>by
  have hne:r≠q:=fun e=>by rw [e,hq] at hr;cases hr
  exact ⟨hne,by rw [hH r hne,hr];rfl⟩
 have rowOf:∀ r T es xs,H2 r=some (.row T es xs)→r≠q∧H r=some (.row T es xs):=fun r T es xs hr=>by
  have hne:r≠q:=fun e=>by rw [e,hq2] at hr;cases hr
  rw [hH r hne] at hr
  cases hb:H r with
  | none=>rw [hb] at hr;cases hr
  | some b=>
   rw [hb] at hr
   cases b<;>simp only [Option.map_some,Blk.wl,Option.some.injEq] at hr<;>cases hr
   exact ⟨hne,rfl⟩
 have arrOf:∀ r T cs,H2 r=some (.arr T cs)→r≠q∧∃ cs0,H r=some (.arr T cs0):=fun r T cs hr=>by
  have hne:r≠q:=fun e=>by rw [e,hq2] at hr;cases hr
  rw [hH r hne] at hr
  cases hb:H r with
  | none=>rw [hb] at hr;cases hr
  | some b=>
   rw [hb] at hr
   cases b<;>simp only [Option.map_some,Blk.wl,Option.some.injEq] at hr<;>cases hr
   exact ⟨hne,_,rfl⟩
 induction h with
 | undef=>exact .undef
 | d x v h=>exact .d x v (h.mono hA (fun _ _=>rfl))
 | fp row off b o hb h=>exact .fp row off b o (hA _ hb) (fun j x hj=>let ⟨cv,h1,h2⟩:=h j x hj;⟨cv,h1,h2.mono hA (fun _ _=>rfl)⟩)
 | ptr r off T g0 m cs hr hf=>obtain ⟨hne,h2⟩:=varOf r T cs hr;exact .ptr r off T g0 m _ h2 ((hfm r hne).trans hf)
 | vsl r off n k T g0 m cs hb hr hf=>obtain ⟨hne,h2⟩:=varOf r T cs hr;exact .vsl r off n k T g0 m _ hb h2 ((hfm r hne).trans hf)
 | asl r n ad hr hb h=>
  refine .asl r n ad hr hb (fun T cs hx=>?_)
  obtain ⟨hne,cs0,h1⟩:=arrOf r T cs hx
  obtain ⟨g0,m,h3,h4⟩:=h _ _ h1
  exact ⟨g0,m,(hfm r hne).trans h3,h4⟩
 | aptr r off ad hr h=>
  refine .aptr r off ad hr (fun T cs hx=>?_)
  obtain ⟨hne,cs0,h1⟩:=arrOf r T cs hx
  obtain ⟨g0,m,h3,h4⟩:=h _ _ h1
  exact ⟨g0,m,(hfm r hne).trans h3,h4⟩
 | eptr r n i off ad hr hn h=>
  refine .eptr r n i off ad hr (fun T es xs hx=>hn T es xs (rowOf r T es xs hx).2) (fun T es xs hx hl=>?_)
  obtain ⟨hne,h1⟩:=rowOf r T es xs hx
  obtain ⟨g0,m,h3,h4⟩:=h T es xs h1 hl
  exact ⟨g0,m,(hfm r hne).trans h3,h4⟩
 | own r n a m hr hb hn h=>
  refine .own r n a m hr hb (fun T es xs hx=>hn T es xs (rowOf r T es xs hx).2) (fun T es xs hx hl=>?_)
  obtain ⟨hne,h1⟩:=rowOf r T es xs hx
  rcases h T es xs h1 hl with ⟨g0,h3,h4⟩ | ⟨h3,h4⟩
  ·exact .inl ⟨g0,(hfm r hne).trans h3,h4⟩
  ·exact .inr ⟨(hfm r hne).trans h3,h4⟩
 | map r g0 m es hr hf=>
  by_cases e:r=q
  ·subst e
   rw [hqf] at hf;cases hf
   simp only [V.wl,Nat.beq_refl,cond_true]
   exact .wmp g
  ·have:Nat.beq r q=false:=by cases hb:Nat.beq r q with | true=>exact absurd (Nat.eq_of_beq_eq_true hb) e | false=>rfl
   simp only [V.wl,this,cond_false]
   exact .map r g0 m es (by rw [hH r e,hr];rfl) ((hfm r e).trans hf)
 | clo f first caps fs cs hf hc h1 h2 ih1 ih2=>exact .clo f _ _ fs cs (hf.trans (len _).symm) (hc.trans (len _).symm) (list _ _ ih1) (list _ _ ih2)
 | wmp g=>exact .wmp g
 | yld=>rw [← hy];exact .yld
 | opq v h=>exact .opq _ h
 | fsl es xs a h=>exact .fsl es xs a (h.mono hA (fun _ _=>rfl))
 | fmp es g en clock hA0 hg hsz hen=>exact .fmp es g en clock (hA g hA0) hg hsz (fun i k v e h1 h2=>⟨(hen i k v e h1 h2).1.mono hA (fun _ _=>rfl),(hen i k v e h1 h2).2.mono hA (fun _ _=>rfl)⟩)
 | agg cs vs hl h h1 ih=>exact .agg _ vs (hl.trans (len _).symm) (list _ _ ih) h1
 | tup cs vs hl h ih=>exact .tup _ vs (hl.trans (len _).symm) (list _ _ ih)
section
variable {P:Program} {G:Gl} {nt:Nat} {F:Fence}
theorem hide_core {σ:St} {σ':Nat→St} (q:Nat) {es:List (DV×DV)} {Im:List (DV×DV)→Prop} (hp:ImPl Im) (hI:Im es) (hfr:σ.fr=Fr.emp) (hq:look σ.heap q=some (.mp es)) (hb:Nat.ble σ.base q=true)
  (hs:∀ g,σ' g={ env:=wlE q g σ.env,heap:=wlH q g σ.heap,nx:=σ.nx,fr:=FrTop g (MapI Im),dfs:=σ.dfs,base:=σ.base }) {c:Cx} {a:Act} {w:World} (hR:RelS G nt c σ a w):∃ g c2,RelS G nt c2 (σ' g) a w∧Went c σ w c2 (σ' g) w:=by
 obtain ⟨g,m,hf,hB⟩:=(hR.R.h.pl q _ hq).resolve_right (fun hn=>by obtain ⟨_,hu⟩:=hn;cases hu)
 have hbase:=Nat.le_of_ble_eq_true hb
 let c2:Cx:={ fm:=fun r=>if r=q then none else c.fm r,A:=c.A,O:=fun k=>k=g,y:=c.y }
 have hfm:∀ r,r≠q→c2.fm r=c.fm r:=fun r hr=>by simp [c2,hr]
 have hH:∀ r,r≠q→look (wlH q g σ.heap) r=(look σ.heap r).map (Blk.wl q g):=fun r hr=>by rw [look_wlH,if_neg hr]
 have hq2:look (wlH q g σ.heap) q=none:=by rw [look_wlH,if_pos rfl]
 have hv:∀ {v:V} {cv:Value},VRel c (look σ.heap) (fun r=>r<σ.nx) w v cv→VRel c2 (look (wlH q g σ.heap)) (fun r=>r<σ.nx) w (v.wl q g) cv:=fun h=>h.hide hfm (fun _ h=>h) rfl hq hf hH hq2
 have back:∀ r b,look (wlH q g σ.heap) r=some b→r≠q∧∃ b0,look σ.heap r=some b0∧b=b0.wl q g:=fun r b h=>by
  have hne:r≠q:=fun e=>by rw [e,hq2] at h;cases h
  rw [hH r hne,Option.map_eq_some_iff] at h
  obtain ⟨b0,h1,h2⟩:=h
  exact ⟨hne,b0,h1,h2.symm⟩
 have glt:=hR.R.h.blt hq hf
 have hh:HRel G c2 (look (wlH q g σ.heap)) (fun r=>r<σ.nx) (FrTop g (MapI Im)) w:=by
  refine ⟨fun r b h=>(let ⟨_,b0,h1,_⟩:=back r b h;hR.R.h.lt r b0 h1),fun r b h=>?_,fun r r' b b' g1 m1 m2 h h' f f'=>?_,fun r b g1 m1 h f=>?_,fun r b g1 m1 h f ho=>?_,fun k hk ho=>?_,hR.R.h.Alt,fun k hk=>?_,⟨rfl,MapI.of hp hI hB⟩,fun k row hk=>hR.R.h.gl k row hk⟩
  ·obtain ⟨hne,b0,h1,rfl⟩:=back r b h
   rcases hR.R.h.pl r b0 h1 with ⟨g1,m1,f1,hB1⟩ | ⟨f1,hu⟩
   ·refine .inl ⟨g1,m1,(hfm r hne).trans f1,?_⟩
    cases b0 with
    | var T cs=>
     obtain ⟨cur,p1,p2,p3⟩:=hB1
     refine ⟨cur,p1,by rw [p2,wls_map,List.length_map],fun j x cv hx hcv=>?_⟩
     rw [wls_map,List.getElem?_map,Option.map_eq_some_iff] at hx
     obtain ⟨y,hy,rfl⟩:=hx
     exact ⟨hv (p3 j y cv hy hcv).1,(p3 j y cv hy hcv).2⟩
    | arr T cs=>
     obtain ⟨cur,p1,p2,p3⟩:=hB1
     refine ⟨cur,p1,by rw [p2,wls_map,List.length_map],fun j x cv hx hcv=>?_⟩
     rw [wls_map,List.getElem?_map,Option.map_eq_some_iff] at hx
     obtain ⟨y,hy,rfl⟩:=hx
     exact ⟨hv (p3 j y cv hy hcv).1,(p3 j y cv hy hcv).2⟩
    | row T es xs=>exact hB1
    | mp es=>exact hB1
    | dm=>exact hB1
    | dead=>exact hB1
   ·refine .inr ⟨(hfm r hne).trans f1,?_⟩
    cases hu with
    | row T es hpos=>exact .row T es hpos
    | dead=>exact .dead
  ·obtain ⟨hne,b0,h1,_⟩:=back r b h
   obtain ⟨hne',b0',h1',_⟩:=back r' b' h'
   rw [hfm r hne] at f;rw [hfm r' hne'] at f'
   exact hR.R.h.inj r r' b0 b0' g1 m1 m2 h1 h1' f f'
  ·obtain ⟨hne,b0,h1,_⟩:=back r b h
   rw [hfm r hne] at f
   exact hR.R.h.nA r b0 g1 m1 h1 f
  ·obtain ⟨hne,b0,h1,_⟩:=back r b h
   rw [hfm r hne] at f
   have ho:g1=g:=ho
   subst ho
   exact hne (hR.R.h.inj r q b0 _ g1 m1 m h1 hq f hf)
  ·have ho:k=g:=ho
   subst ho
   exact hR.R.h.nA q _ k m hq hf hk
  ·have hk:k=g:=hk
   subst hk;exact glt
 have hR2:RelS G nt c2 (σ' g) a w:=by
  rw [hs g]
  refine ⟨⟨hR.R.nt,fun t v h=>?_,hh⟩,?_,hR.base⟩
  ·simp only [look_wlE,Option.map_eq_some_iff] at h
   obtain ⟨v0,h1,rfl⟩:=h
   obtain ⟨cv,h2,h3⟩:=hR.R.env t v0 h1
   exact ⟨cv,h2,hv h3⟩
  ·have df:∀ (l:List Nat) (ds:List Deferred),DfRel c (look σ.heap) l ds→DfRel c2 (look (wlH q g σ.heap)) l ds:=fun l=>by
    induction l with
    | nil=>intro ds h;exact h
    | cons r l ih=>
     intro ds ⟨g1,m1,ds',h1,h2,h3,h4⟩
     have hne:r≠q:=fun e=>by rw [e,hq] at h1;cases h1
     exact ⟨g1,m1,ds',by rw [hH r hne,h1];rfl,(hfm r hne).trans h2,h3,ih ds' h4⟩
   exact df _ _ hR.df
 have hW:Went c σ w c2 (σ' g) w:=by
  have hsh:look (σ' g).heap=look (wlH q g σ.heap):=by rw [hs g]
  have hsb:(σ' g).base=σ.base:=by rw [hs g]
  refine ⟨⟨rfl,rfl,rfl,Nat.le_refl _,rfl,fun _ _ _ _=>rfl,fun r b g1 m1 h f=>?_,fun _ h=>h,fun _ h=>.inl h,fun k hk=>?_⟩,?_,hsb⟩
  ·rw [hsh] at h
   obtain ⟨hne,b0,h1,_⟩:=back r b h
   rw [hfm r hne] at f
   exact .inr (.inr ⟨r,b0,m1,h1,f⟩)
  ·have hk:k=g:=hk
   subst hk;exact .inr (.inr ⟨q,_,m,hq,hf⟩)
  ·rw [hsh]
   refine ⟨fun r T cs hr h=>?_,fun r T es xs hr h=>?_,fun r es hr h=>?_,fun r hr h=>?_,fun r T cs hr h=>?_⟩
   ·have hne:r≠q:=by omega
    exact ⟨hfm r hne,_,by rw [hH r hne,h];rfl⟩
   ·obtain ⟨hne,b0,h1,h2⟩:=back r _ h
    cases b0<;>simp only [Blk.wl] at h2<;>cases h2
    exact ⟨xs,h1,Nat.le_refl _,fun _=>hfm r hne⟩
   ·have hne:r≠q:=by omega
    exact ⟨hfm r hne,es,by rw [hH r hne,h];rfl⟩
   ·have hne:r≠q:=by omega
    exact ⟨hfm r hne,by rw [hH r hne,h];rfl⟩
   ·obtain ⟨hne,b0,h1,h2⟩:=back r _ h
    cases b0<;>simp only [Blk.wl] at h2<;>cases h2
    exact ⟨_,h1,hfm r hne⟩
 exact ⟨g,c2,hR2,hW⟩
theorem AW.hide {ic:ICode} {Q:Post} {σ:St} {σ':Nat→St} (q:Nat) {es:List (DV×DV)} {Im:List (DV×DV)→Prop} (hp:ImPl Im) (hI:Im es) (hfr:σ.fr=Fr.emp) (hq:look σ.heap q=some (.mp es)) (hb:Nat.ble σ.base q=true)
  (hs:∀ g,σ' g={ env:=wlE q g σ.env,heap:=wlH q g σ.heap,nx:=σ.nx,fr:=FrTop g (MapI Im),dfs:=σ.dfs,base:=σ.base }) (k:∀ g,AW P G nt F ic Q (σ' g)):AW P G nt F ic Q σ:=by
 intro code htr c a w hR
 obtain ⟨g,c2,hR2,hW⟩:=hide_core q hp hI hfr hq hb hs hR
 refine wpIn_mono (k g code htr c2 a w hR2) ?_
 rintro e a1 w1 ⟨σ2,c3,h3,h4,h5⟩
 exact ⟨σ2,c3,h3,h4,hW.trans h5⟩
theorem RW.hide {ops:List IOper} {Q:Post} {σ:St} {σ':Nat→St} (q:Nat) {es:List (DV×DV)} {Im:List (DV×DV)→Prop} (hp:ImPl Im) (hI:Im es) (hfr:σ.fr=Fr.emp) (hq:look σ.heap q=some (.mp es)) (hb:Nat.ble σ.base q=true)
  (hs:∀ g,σ' g={ env:=wlE q g σ.env,heap:=wlH q g σ.heap,nx:=σ.nx,fr:=FrTop g (MapI Im),dfs:=σ.dfs,base:=σ.base }) (k:∀ g,RW P G nt F ops Q (σ' g)):RW P G nt F ops Q σ:=by
 intro ps i hi ht c0 σ0 w0 c a w hR hW0
 obtain ⟨g,c2,hR2,hW⟩:=hide_core q hp hI hfr hq hb hs hR
 exact k g ps i hi ht c0 σ0 w0 c2 a w hR2 (hW0.trans hW)
theorem Can.unhide {σ σ1:St} (h:σ1={ env:=σ.env,heap:=σ.heap,nx:=σ.nx,fr:=Fr.emp,dfs:=σ.dfs,base:=σ.base }):Can G nt σ σ1:=by
 subst h
 intro c a w hR
 let c2:Cx:={ fm:=c.fm,A:=c.A,O:=fun _=>False,y:=c.y }
 have hst:HStep c (look σ.heap) (fun r=>r<σ.nx) c2 (look σ.heap) (fun r=>r<σ.nx):=⟨fun _ h=>h,rfl,fun _ h=>h,fun r T cs hr=>⟨rfl,cs,hr⟩,fun r T es xs _ hr=>⟨xs,hr,Nat.le_refl _,fun _=>rfl⟩,fun r es hr=>⟨rfl,es,hr⟩,fun r hr=>⟨rfl,hr⟩,fun r T cs _ hr=>⟨cs,hr,rfl⟩⟩
 have hh:HRel G c2 (look σ.heap) (fun r=>r<σ.nx) Fr.emp w:=
  ⟨hR.R.h.lt,fun r b h=>(hR.R.h.pl r b h).imp (fun ⟨g,m,hf,hB⟩=>⟨g,m,hf,hB.mono rfl (fun _ _=>rfl) hst⟩) id,hR.R.h.inj,hR.R.h.nA,fun _ _ _ _ _ _ h=>h,fun _ _ h=>h,hR.R.h.Alt,fun _ h=>h.elim,fun _ h=>h,fun g row hg=>hR.R.h.gl g row hg⟩
 exact ⟨c2,⟨⟨hR.R.nt,fun t v h=>(let ⟨cv,h1,h2⟩:=hR.R.env t v h;⟨cv,h1,h2.mono (fun _ _=>rfl) hst⟩),hh⟩,DfRel.mono hst hR.df,hR.base⟩,
  ⟨rfl,rfl,rfl,Nat.le_refl _,rfl,fun _ _ _ _=>rfl,fun r b g m h f=>.inr (.inr ⟨r,b,m,h,f⟩),fun _ h=>h,fun _ h=>.inl h,fun _ h=>h.elim⟩,
  ⟨fun r T cs _ h=>⟨rfl,cs,h⟩,fun r T es xs _ h=>⟨xs,h,Nat.le_refl _,fun _=>rfl⟩,fun r es _ h=>⟨rfl,es,h⟩,fun r _ h=>⟨rfl,h⟩,fun r T cs _ h=>⟨cs,h,rfl⟩⟩,rfl⟩
end
end Go.Abs
namespace Go.Abs
def V.w0:V→Bool
 | .d _=>true
 | .map r=>Nat.beq r 0
 | _=>false
def V.w1:V→Bool
 | .agg cs=>cs.all V.w0
 | v=>v.w0
theorem VRel.w0 {c c1:Cx} {H H1:Hp} {U U1:Nat→Prop} {w:World} {g m:Nat} {es:List (DV×DV)} (hA:∀ k,c.A k→c1.A k) (hH:H1 0=some (.mp es)) (hf:c1.fm 0=some (g,m)) {x:V} {cv:Value} (h:VRel c H U w (x.wl 0 g) cv) (hx:x.w0=true):VRel c1 H1 U1 w x cv:=by
 cases x<;>simp [V.w0] at hx
 case d y=>simp only [V.wl] at h;cases h with | d _ _ h=>exact .d _ _ (h.mono hA (fun _ _=>rfl))
 case map r=>
  subst hx
  simp only [V.wl,Nat.beq_refl,cond_true] at h
  cases h
  exact .map 0 g m es hH hf
theorem VRel.w1 {c c1:Cx} {H H1:Hp} {U U1:Nat→Prop} {w:World} {g m:Nat} {es:List (DV×DV)} (hA:∀ k,c.A k→c1.A k) (hH:H1 0=some (.mp es)) (hf:c1.fm 0=some (g,m)) {x:V} {cv:Value} (h:VRel c H U w (x.wl 0 g) cv) (hx:x.w1=true):VRel c1 H1 U1 w x cv:=by
 cases x
 case agg cs=>
  simp only [V.wl] at h
  simp only [V.w1] at hx
  cases h with
  | agg _ vs hl h h1=>
   rw [wls_map,List.length_map] at hl
   refine .agg cs vs hl (fun i y v hy hv=>?_) h1
   have:=h i (y.wl 0 g) v (by rw [wls_map,List.getElem?_map,hy];rfl) hv
   exact this.w0 hA hH hf (List.all_eq_true.1 hx y (List.mem_of_getElem? hy))
 all_goals exact VRel.w0 hA hH hf h hx
section
variable {P:Program} {G:Gl} {nt:Nat}
theorem SCall.wild {f:Nat} {vs vs':List V} {r:V} {g:Nat} {Im:List (DV×DV)→Prop} {fr:Fr} (hp:ImPl Im) (hW:FrW g (MapI Im) fr) (hvs:vs=V.wl.wls 0 g vs') (hw:vs'.all V.w1=true) (hr:r.isD=true)
  (h:∀ es,Im es→∃ es',Im es'∧SCall P G f vs' [(0,.mp es)] 1 Fr.emp r [(0,.mp es')] 1 Fr.emp):SCall P G f vs [] 0 fr r [] 0 fr:=by
 subst hvs
 intro c w args hsz hargs hH
 obtain ⟨hOg,en,clock,hen,es,hI,hes,hek⟩:=hW.at_ hH.fr
 obtain ⟨es',hI',hS⟩:=h es hI
 have hAg:∀ k,c.A k→k≠g:=fun k hk e=>hH.AO k hk (e▸hOg)
 let c1:Cx:={ fm:=fun q=>if q=0 then some (g,0) else none,A:=c.A,O:=fun _=>False,y:=c.y }
 have l0:∀ q b,look [(0,Blk.mp es)] q=some b→q=0∧b=.mp es:=fun q b hq=>by
  rw [look_cons] at hq
  split at hq
  ·rename_i e;cases hq;exact ⟨e.symm,rfl⟩
  ·exact (look_nil hq).elim
 have l1:∀ q b,look [(0,Blk.mp es')] q=some b→q=0∧b=.mp es':=fun q b hq=>by
  rw [look_cons] at hq
  split at hq
  ·rename_i e;cases hq;exact ⟨e.symm,rfl⟩
  ·exact (look_nil hq).elim
 have hh1:HRel G c1 (look [(0,.mp es)]) (fun r=>r<1) Fr.emp w:=by
  refine ⟨fun q b hq=>(by rw [(l0 q b hq).1];omega),fun q b hq=>?_,fun q q' b b' g1 m m' hq hq' _ _=>(l0 q b hq).1.trans (l0 q' b' hq').1.symm,fun q b g1 m hq hf ha=>?_,fun _ _ _ _ _ _ h=>h,fun _ _ h=>h,hH.Alt,fun _ h=>h.elim,fun _ h=>h,fun k row hk=>hH.gl k row hk⟩
  ·obtain ⟨rfl,rfl⟩:=l0 q b hq
   exact .inl ⟨g,0,by simp [c1],en,clock,hen,hes,fun i k v e h1 h2=>hek i k v e h1 h2 _ _⟩
  ·obtain ⟨rfl,rfl⟩:=l0 q b hq
   simp only [c1,if_true,Option.some.injEq,Prod.mk.injEq] at hf
   exact hAg g1 ha hf.1.symm
 have hlk:look [(0,Blk.mp es)] 0=some (.mp es):=rfl
 refine CallsIn.mono (hS c1 w args (by rw [hsz,wls_map,List.length_map]) (fun i x v hx hv=>?_) hh1) ?_
 ·have:=hargs i (x.wl 0 g) v (by rw [wls_map,List.getElem?_map,hx];rfl) hv
  exact VRel.w1 (c:=c) (c1:=c1) (g:=g) (m:=0) (fun _ h=>h) hlk (show c1.fm 0=some (g,0) by simp [c1]) this (List.all_eq_true.1 hw x (List.mem_of_getElem? hx))
 ·rintro e w' ⟨rv,c',rfl,hv,hs,hh',hx⟩
  obtain ⟨hfm,_⟩:=hs.mp 0 es rfl
  have hfg:c'.fm 0=some (g,0):=by rw [hfm];simp [c1]
  have hlk':look [(0,Blk.mp es')] 0=some (.mp es'):=rfl
  obtain ⟨g1,m1,hf1,hB1⟩:=(hh'.pl 0 _ hlk').resolve_right (fun hn=>by rw [hfg] at hn;cases hn.1)
  rw [hfg] at hf1;cases hf1
  have hmap:=MapI.of hp hI' hB1
  have hn1:∀ k,k≠g→∀ r b m,look [(0,Blk.mp es)] r=some b→c1.fm r≠some (k,m):=fun k hk r b m hq hf=>by
   obtain ⟨rfl,rfl⟩:=l0 r b hq
   simp only [c1,if_true,Option.some.injEq,Prod.mk.injEq] at hf
   exact hk hf.1.symm
  have hsame:∀ k,k<w.heap.size→k≠g→w'.heap[k]?=w.heap[k]?:=fun k hk hne=>hx.same k hk (hn1 k hne) (fun h=>h)
  have hA'n:¬ c'.A g:=hh'.nA 0 _ g 0 hlk' hfg
  have hA'O:∀ k,c'.A k→¬ c.O k:=fun k hk ho=>by
   rcases hx.A' k hk with h1 | h1 | h1 | ⟨r0,b0,m0,h1,h2⟩
   ·exact hH.AO k h1 ho
   ·have:=hH.Olt k ho;omega
   ·exact h1
   ·obtain ⟨rfl,rfl⟩:=l0 r0 b0 h1
    simp only [c1,if_true,Option.some.injEq,Prod.mk.injEq] at h2
    exact hA'n (h2.1▸hk)
  have hfr:fr.P c.y c'.A c.O w':=
   fr.mono _ _ _ _ _ _ (hW.upd (fun k hk=>hH.AO k hk) hH.fr (fun k hk ho=>hsame k (ho.elim (hH.Alt k) (hH.Olt k)) hk) hmap) hs.hA (fun _ _=>rfl)
  have hsz':=hx.size
  refine ⟨rv,{ fm:=fun _=>none,A:=c'.A,O:=c.O,y:=c.y },rfl,hv.dat hr (fun _ h=>h),⟨fun _ h=>h,rfl,hs.hA,fun r T cs h=>(look_nil h).elim,fun r T es xs h=>absurd h (Nat.not_lt_zero _),fun r es h=>(look_nil h).elim,fun r h=>(look_nil h).elim,fun r T cs h=>absurd h (Nat.not_lt_zero _)⟩,?_,?_⟩
  ·exact ⟨fun r b h=>(look_nil h).elim,fun r b h=>(look_nil h).elim,fun r r' b b' g m m' h=>(look_nil h).elim,fun r b g m h=>(look_nil h).elim,fun r b g m h=>(look_nil h).elim,hA'O,hh'.Alt,fun k hk=>Nat.lt_of_lt_of_le (hH.Olt k hk) hsz',hfr,fun k row hk=>hh'.gl k row hk⟩
  ·refine ⟨hx.os,hx.tape,hx.output,hsz',rfl,fun k hk _ ho=>hsame k hk (fun e=>ho (e▸hOg)),fun r b g m h=>(look_nil h).elim,hs.hA,fun k hk=>?_,fun k hk=>.inr (.inl hk)⟩
   rcases hx.A' k hk with h1 | h1 | h1 | ⟨r0,b0,m0,h1,h2⟩
   ·exact .inl h1
   ·exact .inr (.inl h1)
   ·exact h1.elim
   ·obtain ⟨rfl,rfl⟩:=l0 r0 b0 h1
    simp only [c1,if_true,Option.some.injEq,Prod.mk.injEq] at h2
    exact .inr (.inr (.inl (h2.1▸hOg)))
end
theorem slzL {α β:Type} {xs l:List α} {lo:Int} (hw:slcL xs lo (xs.length:Int)=some l) (f:α→β):((xs.map f).drop lo.toNat).take ((xs.map f).length - lo.toNat)=l.map f:=by
 have:=slz hw f
 simpa using this
theorem slhL {α β:Type} {xs l:List α} {lo:Int} (hw:slcL xs lo (xs.length:Int)=some l) (f:α→β):0≤lo∧lo≤((xs.map f).length:Int):=by
 obtain ⟨h1,h2,_⟩:=slcL_ok hw
 exact ⟨h1,by rw [List.length_map];exact h2⟩
section
variable {P:Program} {G:Gl} {nt:Nat}
theorem s_slcL {es:Nat} {x lo:Opd} {v:V} {xs:List (List D)} {kl:IntKind} {l:Int} {fr:Fr} (hv:DSl es xs v) (h1:0≤l) (h2:l≤xs.length) :
  LStp P G nt (.slc es x (some lo) none none) [(x,v),(lo,.d (.int kl l))] [] (.d (.sl es ((xs.drop l.toNat).take (xs.length - l.toNat)))) ⟨[],[]⟩ fr fr:=by
 refine .pure fun U E H o c ac w ht hR hE hH=>?_
 generalize hop:o.op=op at ht
 generalize hlo:some lo=lo' at ht
 generalize hhi:(none:Option Opd)=hi' at ht
 generalize hmx:(none:Option Opd)=mx' at ht
 cases ht with
 | @slc t e j xo lo0 hi0 mx0 _ _ _ _ ht hj hx hl hh hm=>
  have e1:=ev_ok hR hx hE.1
  obtain ⟨a,cp,hav,hcp,hd⟩:=hv.rel e1
  subst hlo hhi hmx
  have get:∀ {y:Option Operand} {z:Opd},trOo y=some (some z)→∃ y',y=some y'∧trO y'=some z:=fun {y z} hy=>by
   cases y with
   | none=>simp [trOo] at hy
   | some y'=>simp only [trOo] at hy;split at hy<;>cases hy;exact ⟨y',rfl,by assumption⟩
  have non:∀ {y:Option Operand},trOo y=some none→y=none:=fun {y} hy=>by
   cases y with
   | none=>rfl
   | some y'=>simp only [trOo] at hy;split at hy<;>cases hy
  obtain ⟨lo1,rfl,hl1⟩:=get hl
  obtain rfl:=non hh
  obtain rfl:=non hm
  have el:=(ev_ok hR hl1 hE.2.1).int_inv
  have hb:=sub_data hd (l:=l.toNat) (h:=xs.length) (m:=cp) (by omega) (by omega) (by omega) (by omega)
  refine ⟨by simp,.slice (if cp=l.toNat then a else a.map (·.add (l.toNat*j.size))) (xs.length - l.toNat) (cp - l.toNat),?_,?_⟩
  ·simp only [execOp,hop,Instr.sliceAt,run_underlying ht,Sem.run_bind,Result.andThen_ok,hav,el,Option.map_some,Option.map_none,Instr.slice,Instr.sliceBounds,run_bound h1 h2,run_sizeOf hj,Sem.run_pure]
  ·exact .d _ _ hb
end
section
variable {P:Program} {G:Gl} {nt:Nat} {F:Fence} {K:St→List SD→Prop} {rest:List IOper} {σ:St} {sds:List SD} {g:Option (Nat×Bool)} {aft:List Nat}
theorem r_callSW {d:Option Nat} {f:Nat} {args:List Opd} {vs vs0:List V} {H0 H1 zr:List (Nat×Blk)} {n0 n1:Nat} {r0:V} (ns:List Nat) (hg:Wants σ g) (hx:evs G (look σ.env) args=some vs) (h:SCall P G f vs0 H0 n0 σ.fr r0 H1 n1 σ.fr) (hrd:Rds (look σ.heap) (renL (rnm ns σ.nx) H0++zr)) (hl:lendB (rnm ns σ.nx) H0 n0 H1 (keysL zr) (List.range' σ.nx (n1 - n0))=true)
  (hzr:allL (fun p=>isRow p.2) zr=true) (hz:FrzL (look zr) vs (V.ren.rens (rnm ns σ.nx) vs0)) (hok:V.okR.okRs n0 (fun q=>(look H0 q).isSome) vs0=true) (hno:r0.ownIn (fun q=>(look H1 q).isSome)=true) (hal:Nat.beq args.length vs.length=true)
  (k:RunC P G nt K rest (σ.cl d (r0.ren (rnm ns σ.nx)) (renL (rnm ns σ.nx) H1++deadL (keysL zr)) (n1 - n0) σ.fr) (sds++[sdOf g (args.zip vs) (renL (rnm ns σ.nx) H0++zr) ⟨renL (rnm ns σ.nx) H1++deadL (keysL zr),List.range' σ.nx (n1 - n0)⟩])):RunC P G nt K (⟨d,g,.call f args,aft⟩::rest) σ sds:=
 .cl (n:=n1 - n0) (s_callS h (rnm ns σ.nx) zr (Lend.of hl) hzr hz hok hno (Nat.eq_of_beq_eq_true hal)) hg (Evs.zip hx) hrd k
theorem r_slL {d:Option Nat} {es:Nat} {x lo:Opd} {v:V} {xs zs:List (List D)} {kl:IntKind} {l:Int} (hg:Wants σ g) (hx:ev G (look σ.env) x=some v) (hlo:ev G (look σ.env) lo=some (.d (.int kl l))) (hv:DSl es xs v) (h1:0≤l) (h2:l≤xs.length)
  (hz:(xs.drop l.toNat).take (xs.length - l.toNat)=zs) (k:RunC P G nt K rest (σ.put d (.d (.sl es zs))) (sds++[sdOf g [(x,v),(lo,.d (.int kl l))] [] ⟨[],[]⟩])):RunC P G nt K (⟨d,g,.slc es x (some lo) none none,aft⟩::rest) σ sds:=by
 subst hz
 exact .val (s_slcL hv h1 h2) hg ⟨hx,hlo,trivial⟩ trivial k
end
end Go.Abs
namespace Go.Abs
inductive WkL:List D→List D→Prop where
 | nil:WkL [] []
 | eq (x:D) {as bs:List D} (h:WkL as bs):WkL (x::as) (x::bs)
 | wk (e:Nat) {as bs:List D} (h:WkL as bs):WkL (.nilSl::as) (.sl e []::bs)
theorem WkL.get {as bs:List D} (h:WkL as bs):as.length=bs.length∧∀ (i:Nat) (y:D),bs[i]?=some y→∃ x,as[i]?=some x∧(x=y∨x=.nilSl∧∃ e,y=.sl e []):=by
 induction h with
 | nil=>exact ⟨rfl,fun i y h=>by simp at h⟩
 | eq x h ih=>
  refine ⟨by simp [ih.1],fun i y hy=>?_⟩
  cases i with
  | zero=>simp at hy;exact ⟨x,rfl,.inl hy⟩
  | succ i=>exact ih.2 i y (by simpa using hy)
 | wk e h ih=>
  refine ⟨by simp [ih.1],fun i y hy=>?_⟩
  cases i with
  | zero=>simp at hy;exact ⟨.nilSl,rfl,.inr ⟨rfl,e,hy.symm⟩⟩
  | succ i=>exact ih.2 i y (by simpa using hy)
theorem CellsRel.wk {c:Cx} {H:Hp} {U:Nat→Prop} {w:World} {cs ds:List D} {cur:Array Value} (h:WkL cs ds) (hc:CellsRel c H U w (cs.map .d) cur):CellsRel c H U w (ds.map .d) cur:=by
 obtain ⟨h1,h2⟩:=hc
 obtain ⟨hl,hg⟩:=h.get
 refine ⟨by rw [h1];simp [hl],fun i x cv hx hcv=>?_⟩
 rw [List.getElem?_map,Option.map_eq_some_iff] at hx
 obtain ⟨y,hy,rfl⟩:=hx
 obtain ⟨z,hz,hr⟩:=hg i y hy
 obtain ⟨h3,h4⟩:=h2 i (.d z) cv (by rw [List.getElem?_map,hz];rfl) hcv
 rcases hr with rfl | ⟨rfl,e,rfl⟩
 ·exact ⟨h3,h4⟩
 ·refine ⟨?_,h4⟩
  cases h3 with
  | d _ _ h=>cases h;exact .d _ _ (.sl e [] none 0 (fun _ _=>.nilFunc) (Nat.le_refl _) (by decide) (fun h=>absurd h (Nat.lt_irrefl _)) (fun i row h=>by simp at h) (fun g o h=>by cases h) (fun i j row x h=>by simp at h))
section
variable {P:Program} {G:Gl} {nt:Nat}
theorem s_bslW {T es n:Nat} {z:List D} {parts:List (Nat×Nat×Opd)} {vs out:List V} {cs ds:List D} (hwk:WkL cs ds) {nm:Nat} {fr:Fr} (hf:fillV ((repD n z).map .d) (plOf parts) vs=some out) (hu:unV out=some cs) (hl:(opOf parts).length=vs.length) (hlen:ds.length=n*es) (hn:n≤maxLen) :
  LStp P G nt (.bsl T es n z parts) ((opOf parts).zip vs) [] (.own nm n) ⟨[(nm,.row T es (rowsOf es n ds))],[nm]⟩ fr fr:=by
 intro U E H o F c a w next Q ht hF hR hE hH hnw k
 generalize hop:o.op=op at ht
 cases ht with
 | @bsl t e n0 j zv _ ps _ ht hj hz hs hnl hj0 hzs hp=>
  obtain ⟨p1,p2,p3⟩:=trParts_ok hR hp (Evs.unzip hl hE)
  obtain ⟨hzl,hzr⟩:=trDs_ok hs
  have hzsz:zv.cells.size=j.size:=by simpa [hzs] using hzl
  have hinit:CellsRel c H U w ((repD n z).map .d) ((Array.range (n*j.size)).map (zv.cells[· % zv.cells.size]!)):=by
   refine ⟨by simp [repD_len,hzs],fun i x cv hx hcv=>?_⟩
   rw [List.getElem?_map,repD_get z (by omega)] at hx
   by_cases hi:i<n*z.length
   ·rw [if_pos hi] at hx
    simp only [Option.map_eq_some_iff] at hx
    obtain ⟨y,hy,rfl⟩:=hx
    rw [hzs] at hi
    rw [Array.getElem?_map,Array.getElem?_eq_getElem (by simpa using hi)] at hcv
    simp only [Array.getElem_range,Option.map_some,Option.some.injEq] at hcv
    have hlt:i % zv.cells.size<zv.cells.size:=Nat.mod_lt _ (by omega)
    rw [getElem!_pos zv.cells (i % zv.cells.size) hlt] at hcv
    have hd:=hzr c.A w (i % z.length) y cv hy (by
     rw [hzs,← hzsz,Array.getElem?_toList,Array.getElem?_eq_getElem hlt,hcv])
    exact ⟨.d _ _ hd,hd.oneCell⟩
   ·rw [if_neg hi] at hx;cases hx
  have hpl:(ps.toList.map fun p=>(p.1,a.eval p.2)).map (fun p=>some (p.1*j.size,j.size))=(plOf parts).map some:=by
   rw [← p1,List.map_map];rfl
  obtain ⟨cur',f1,f2⟩:=fill_ok (place:=fun i=>some (i*j.size,j.size)) hinit hpl (by simpa using p2) p3 hf
  rw [unV_eq hu] at f2
  have f2:=CellsRel.wk hwk f2
  obtain ⟨hst,hR',hx⟩:=hR.new nm n (.row T j.size (rowsOf j.size n ds)) (.cells cur' T) (hnw nm (by simp)) (fun hs hA=>BRel.row_of (heap_alloc_at _ _) hj0 hlen hn f2 hA rfl (H':=upd H nm (.row T j.size (rowsOf j.size n ds))) (U':=usOf [nm] U))
  refine wp_value hF (cv:=.slice (some ⟨w.heap.size,0,none⟩) n n) (by simp [hop]) ?_ (k _ _ (w.alloc (.cells cur' T)) hst hR' ?_ hx)
  ·have hps:(ps.map fun x=>(x.1,a.eval x.2)).toList=ps.toList.map fun p=>(p.1,a.eval p.2):=by simp
   have hgt:¬ n*j.size > 2 ^ 24:=by omega
   simp only [execOp,hop,Instr.buildSlice,run_underlying ht,Sem.run_bind,Result.andThen_ok,run_sizeOf hj,hps,hgt,if_false]
   by_cases h0:n*j.size=0
   ·have hn0:n=0:=by rcases Nat.mul_eq_zero.1 h0 with h | h;exact h;omega
    subst hn0
    have hps0:ps.toList=[]:=by
     cases hpsl:ps.toList with
     | nil=>rfl
     | cons p l=>
      rw [hpsl] at hp p1 p2
      cases parts with
      | nil=>simp [plOf] at p1
      | cons q parts=>
       obtain ⟨o1,s1,x1⟩:=q
       cases vs with
       | nil=>simp at p2
       | cons v vs=>
        simp only [plOf,List.map_cons,List.cons.injEq,Option.some.injEq,Prod.mk.injEq] at p1
        simp only [repD,List.map_nil,plOf,fillV] at hf
        split at hf
        ·have:(Nat.ble (o1+s1) 0)=false:=by
          cases hb:Nat.ble (o1+s1) 0 with
          | false=>rfl
          | true=>have:=Nat.le_of_ble_eq_true hb;omega
         simp [this] at hf
        ·cases hf
    rw [hps0] at f1 ⊢
    simp only [List.map_nil,Instr.fill,Nat.zero_mul] at f1 ⊢
    cases f1
    have e0:∀ f:Nat→Value,Array.map f (Array.range 0)=#[]:=fun f=>by apply Array.ext';simp
    simp only [e0,if_true,Sem.run_bind,Sem.run_pure,Result.andThen_ok,Instr.fill]
    simp [newRow]
   ·simp only [h0,if_false,Sem.run_bind,run_zeroValue hj hz,Result.andThen_ok,Sem.run_pure,f1]
    simp [newRow]
  ·refine .own nm n _ n (.inr (by simp)) hn (fun T' es' xs h=>?_) (fun T' es' xs h _=>.inl ⟨w.heap.size,upd_same _ _ _,rfl⟩)
   have:upd H nm (.row T j.size (rowsOf j.size n ds)) nm=some (.row T' es' xs):=h
   rw [upd_same] at this;cases this
   rw [rowsOf_len];exact Nat.le_refl _
end
section
variable {P:Program} {G:Gl} {nt:Nat} {F:Fence} {K:St→List SD→Prop} {rest:List IOper} {σ:St} {sds:List SD} {g:Option (Nat×Bool)} {aft:List Nat}
theorem r_bslW {t T es n:Nat} {z:List D} {parts:List (Nat×Nat×Opd)} {vs out:List V} {cs ds:List D} {ys:List (List D)} (hwk:WkL cs ds) (hg:Wants σ g) (hx:evs G (look σ.env) (opOf parts)=some vs) (hf:fillV ((repD n z).map .d) (plOf parts) vs=some out) (hu:unV out=some cs) (hl:Nat.beq (opOf parts).length vs.length=true) (hlen:Nat.beq ds.length (n*es)=true) (hn:Nat.ble n maxLen=true) (hy:rowsOf es n ds=ys)
  (k:RunC P G nt K rest (σ.nw t (.own σ.nx n) (.row T es ys)) (sds++[sdOf g ((opOf parts).zip vs) [] ⟨[(σ.nx,.row T es ys)],[σ.nx]⟩])):RunC P G nt K (⟨some t,g,.bsl T es n z parts,aft⟩::rest) σ sds:=by
 subst hy
 exact .nw1 (s_bslW hwk hf hu (Nat.eq_of_beq_eq_true hl) (Nat.eq_of_beq_eq_true hlen) (Nat.le_of_ble_eq_true hn)) hg (Evs.zip hx) trivial k
end
end Go.Abs
