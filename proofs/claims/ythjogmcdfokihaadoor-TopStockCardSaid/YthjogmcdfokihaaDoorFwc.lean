/- The framework: what a piece of code does to told states, part 3. Conditions: none. -/
import Derived.Test.YthjogmcdfokihaaDoorFwb
import Derived.CallsIn
import Derived.OrdersIn
import Derived.Below
import Derived.Laws.World
import Derived.Laws.Cells
import Derived.Laws.Entries
import Derived.Laws.CopyRow
import Derived.IntWalk
import Derived.RangeFuncRecord
import Derived.RangeFuncLeaves
import Derived.KernelRfl
import Derived.Maps.AppendAt
import Derived.Laws.MakeOwn
import Derived.Laws.StructEq
import Derived.ChangeKeysEq
import Derived.MapKept
import Derived.ProofKit
import Derived.OpenShut
import Derived.LaidMore
import Derived.Lib.SliceRun
set_option linter.unusedVariables false
set_option linter.unusedSimpArgs false
namespace Go.Abs
def fillV:List V→List (Nat×Nat)→List V→Option (List V)
 | cs,[],[]=>some cs
 | cs,(off,sz)::ps,v::vs=>match cellsOf v with
  | some l=>bif Nat.beq l.length sz&&Nat.ble (off+sz) cs.length then fillV (spl cs off l) ps vs else none
  | none=>none
 | _,_,_=>none
theorem spl_length {α:Type} (cs:List α) (off:Nat) (vs:List α) (h:off+vs.length≤cs.length):(spl cs off vs).length=cs.length:=by
 simp only [spl,List.length_append,List.length_take,List.length_drop];omega
theorem spl_get {α:Type} (cs:List α) (off:Nat) (vs:List α) (h:off+vs.length≤cs.length) (j:Nat):(spl cs off vs)[j]?=if off≤j∧j<off+vs.length then vs[j - off]? else cs[j]?:=by
 have l2:(cs.take off).length=off:=by simp;omega
 rw [spl,List.append_assoc]
 by_cases h1:j<off
 ·rw [List.getElem?_append_left (by omega),List.getElem?_take,if_pos h1,if_neg (by omega)]
 ·rw [List.getElem?_append_right (by omega),l2]
  by_cases h2:j - off<vs.length
  ·rw [List.getElem?_append_left h2,if_pos (by omega)]
  ·rw [List.getElem?_append_right (by omega),List.getElem?_drop,if_neg (by omega)]
   congr 1;omega
theorem fold_set (off:Nat):∀ (l:List Value) (k:Nat) (cs:Array Value),(l.zipIdx k).foldl (fun cs (x:Value×Nat)=>cs.setIfInBounds (off+x.2) x.1) cs=⟨(List.range cs.size).map fun j=>if off+k≤j∧j<off+k+l.length then l.getD (j - (off+k)) .nilFunc else cs.toList.getD j .nilFunc⟩
 | [],k,cs=>by
  apply Array.ext'
  refine List.ext_getElem? fun j=>?_
  simp only [List.zipIdx_nil,List.foldl_nil,List.getElem?_map]
  by_cases hj:j<cs.size
  ·rw [List.getElem?_range hj]
   simp only [Option.map_some]
   rw [if_neg (by simp),List.getD_eq_getElem?_getD,Array.getElem?_toList,Array.getElem?_eq_getElem hj];rfl
  ·rw [List.getElem?_eq_none (by simpa using hj),List.getElem?_eq_none (by simpa using hj)];rfl
 | v::l,k,cs=>by
  rw [List.zipIdx_cons,List.foldl_cons,fold_set off l (k+1)]
  simp only [Array.size_setIfInBounds]
  congr 1
  refine List.map_congr_left fun j hj=>?_
  have hj:j<cs.size:=by simpa using hj
  by_cases h0:j=off+k
  ·subst h0
   rw [if_neg (by omega),if_pos (by simp)]
   simp only [Array.toList_setIfInBounds,List.getD_eq_getElem?_getD,Nat.sub_self,List.getElem?_cons_zero,Option.getD_some]
   rw [List.getElem?_set_self (by simpa using hj)];rfl
  ·by_cases h1:off+k<j∧j<off+k+1+l.length
   ·rw [if_pos (by omega),if_pos (by simp;omega)]
    have:j - (off+k)=(j - (off+(k+1)))+1:=by omega
    rw [this];simp [List.getD_eq_getElem?_getD]
   ·rw [if_neg (by omega),if_neg (by simp;omega)]
    simp only [Array.toList_setIfInBounds,List.getD_eq_getElem?_getD]
    rw [List.getElem?_set_ne (by omega)]
theorem fold_set_get (off:Nat) (v:Value) (cs:Array Value) (h:off+v.cells.size≤cs.size):(v.cells.zipIdx.foldl (fun cs (x:Value×Nat)=>cs.setIfInBounds (off+x.2) x.1) cs).size=cs.size ∧
  ∀ j:Nat,(v.cells.zipIdx.foldl (fun cs (x:Value×Nat)=>cs.setIfInBounds (off+x.2) x.1) cs)[j]?=if off≤j∧j<off+v.cells.size then v.cells[j - off]? else cs[j]?:=by
 rw [← Array.foldl_toList,Array.toList_zipIdx,fold_set off v.cells.toList 0 cs]
 refine ⟨by simp,fun j=>?_⟩
 simp only [List.getElem?_toArray,List.getElem?_map,Nat.add_zero,Array.length_toList]
 by_cases hj:j<cs.size
 ·rw [List.getElem?_range hj]
  simp only [Option.map_some]
  by_cases h1:off≤j∧j<off+v.cells.size
  ·rw [if_pos h1,if_pos h1,List.getD_eq_getElem?_getD,Array.getElem?_toList,Array.getElem?_eq_getElem (by omega)];rfl
  ·rw [if_neg h1,if_neg h1,List.getD_eq_getElem?_getD,Array.getElem?_toList,Array.getElem?_eq_getElem hj];rfl
 ·rw [List.getElem?_eq_none (by simpa using hj),if_neg (by omega),Array.getElem?_eq_none (by omega)];rfl
section
variable {P:Program} {G:Gl} {nt:Nat}
def CellsRel (c:Cx) (H:Hp) (U:Nat→Prop) (w:World) (cs:List V) (cur:Array Value):Prop:=
 cur.size=cs.length∧∀ (j:Nat) (x:V) (cv:Value),cs[j]?=some x→cur[j]?=some cv→VRel c H U w x cv∧cv.oneCell'=true
theorem CellsRel.one {c:Cx} {H:Hp} {U:Nat→Prop} {w:World} {cs:List V} {cur:Array Value} (h:CellsRel c H U w cs cur):∀ u∈cur.toList,u.oneCell'=true:=fun u hu=>by
 obtain ⟨j,hj⟩:=List.getElem?_of_mem hu
 have hj':cur[j]?=some u:=by simpa using hj
 have:=(Array.getElem?_eq_some_iff.1 hj').1
 exact (h.2 j _ u (List.getElem?_eq_getElem (by rw [← h.1];exact this)) hj').2
theorem fill_ok {c:Cx} {H:Hp} {U:Nat→Prop} {w:World} {place:Nat→Option (Nat×Nat)}:∀ {parts:List (Nat×Value)} {pls:List (Nat×Nat)} {vs:List V} {cs:List V} {cur:Array Value} {out:List V},CellsRel c H U w cs cur →
  parts.map (fun p=>place p.1)=pls.map some→parts.length=vs.length→(∀ (i:Nat) (x:V) (p:Nat×Value),vs[i]?=some x→parts[i]?=some p→VRel c H U w x p.2)→fillV cs pls vs=some out →
  ∃ cur',Instr.fill place cur parts=some cur'∧CellsRel c H U w out cur'
 | [],pls,vs,cs,cur,out,hc,hp,hl,hv,hf=>by
  cases pls with
  | cons=>simp at hp
  | nil=>
   cases vs with
   | cons=>simp at hl
   | nil=>simp only [fillV] at hf;cases hf;exact ⟨cur,rfl,hc⟩
 | (i,v)::parts,pls,vs,cs,cur,out,hc,hp,hl,hv,hf=>by
  cases pls with
  | nil=>simp at hp
  | cons p pls=>
   obtain ⟨off,sz⟩:=p
   cases vs with
   | nil=>simp at hl
   | cons x vs=>
    simp only [List.map_cons,List.cons.injEq] at hp
    simp only [fillV] at hf
    split at hf
    ·rename_i l hcl
     have hb:(Nat.beq l.length sz&&Nat.ble (off+sz) cs.length)=true:=by
      cases hb:(Nat.beq l.length sz&&Nat.ble (off+sz) cs.length) with
      | true=>rfl
      | false=>rw [hb] at hf;cases hf
     rw [hb] at hf
     simp only [cond_true] at hf
     simp only [Bool.and_eq_true] at hb
     have h1:=Nat.eq_of_beq_eq_true hb.1
     have h2:=Nat.le_of_ble_eq_true hb.2
     have hx:=hv 0 x (i,v) (by simp) (by simp)
     obtain ⟨c1,c2,c3⟩:=cells_ok hx hcl
     simp only at c1 c2 c3
     have hsz:cur.size=cs.length:=hc.1
     obtain ⟨g1,g2⟩:=fold_set_get off v cur (by omega)
     have hcr:CellsRel c H U w (spl cs off l) (v.cells.zipIdx.foldl (fun cs (x:Value×Nat)=>cs.setIfInBounds (off+x.2) x.1) cur):=by
      refine ⟨by rw [g1,spl_length _ _ _ (by omega),hsz],fun j y cv hy hcv=>?_⟩
      rw [g2 j] at hcv
      rw [spl_get _ _ _ (by omega)] at hy
      by_cases hj:off≤j∧j<off+l.length
      ·rw [if_pos hj] at hy
       rw [if_pos (by omega)] at hcv
       exact c2 _ y cv hy hcv
      ·rw [if_neg hj] at hy
       rw [if_neg (by omega)] at hcv
       exact hc.2 j y cv hy hcv
     obtain ⟨cur',hf',hc'⟩:=fill_ok hcr hp.2 (by simpa using hl) (fun k y q hy hq=>hv (k+1) y q (by simpa using hy) (by simpa using hq)) hf
     refine ⟨cur',?_,hc'⟩
     rw [Instr.fill]
     simp only [hp.1]
     rw [if_neg (by simp;omega)]
     exact hf'
    ·cases hf
def plOf:List (Nat×Nat×Opd)→List (Nat×Nat)
 | []=>[]
 | (o,s,_)::l=>(o,s)::plOf l
def opOf:List (Nat×Nat×Opd)→List Opd
 | []=>[]
 | (_,_,x)::l=>x::opOf l
theorem trParts_ok {c:Cx} {U:Nat→Prop} {E:En} {H:Hp} {fr:Fr} {a:Act} {w:World} (h:Rel G nt c U E H fr a w) {sz:Nat→Option (Nat×Nat)}:∀ {ps:List (Nat×Operand)} {ps':List (Nat×Nat×Opd)},trParts sz ps=some ps'→∀ {vs:List V},evs G E (opOf ps')=some vs →
  ps.map (fun p=>sz p.1)=(plOf ps').map some∧ps.length=vs.length∧∀ (i:Nat) (x:V) (p:Nat×Value),vs[i]?=some x→(ps.map fun p=>(p.1,a.eval p.2))[i]?=some p→VRel c H U w x p.2
 | [],ps',hp,vs,hv=>by
  simp only [trParts] at hp;cases hp
  simp only [opOf,evs] at hv;cases hv
  exact ⟨rfl,rfl,fun i x p hx=>by simp at hx⟩
 | (i,x)::ps,ps',hp,vs,hv=>by
  simp only [trParts] at hp
  split at hp
  ·rename_i o s y ys h1 h2 h3
   cases hp
   simp only [opOf,evs] at hv
   split at hv
   ·rename_i u us h4 h5
    cases hv
    obtain ⟨r1,r2,r3⟩:=trParts_ok h h3 h5
    refine ⟨by simp [h1,plOf,r1],by simp [r2],fun k x0 p hx hp=>?_⟩
    cases k with
    | zero=>simp at hx hp;subst hx hp;exact ev_ok h h2 h4
    | succ k=>exact r3 k x0 p (by simpa using hx) (by simpa using hp)
   ·cases hv
  ·cases hp
theorem mapM_places {fs:List Field} (h:∀ f∈fs,∃ j,P.info? f.type=some j) (w:World):∃ l:List (Nat×Nat),(fs.mapM (fun f=>(do pure (f.offset,← sizeOf f.type):Sem (Nat×Nat)))).run P w=.ok l w ∧
  l.length=fs.length∧∀ (i:Nat),l[i]?=(match fs[i]? with | some f=>(match P.info? f.type with | some j=>some (f.offset,j.size) | none=>none) | none=>none):=by
 induction fs with
 | nil=>exact ⟨[],rfl,rfl,fun i=>by simp⟩
 | cons f fs ih=>
  obtain ⟨j,hj⟩:=h f (by simp)
  obtain ⟨l,h1,h2,h3⟩:=ih (fun g hg=>h g (by simp [hg]))
  refine ⟨(f.offset,j.size)::l,?_,by simp [h2],fun i=>?_⟩
  ·rw [List.mapM_cons]
   simp only [Sem.run_bind,run_sizeOf hj,Result.andThen_ok,Sem.run_pure,h1]
  ·cases i with
   | zero=>simp [hj]
   | succ i=>simpa using h3 i
theorem run_zeroValue {t:TypeId} {i:TypeInfo} {z:Value} (hi:P.info? t=some i) (hz:i.zero=some z) (w:World):(zeroValue t).run P w=.ok z w:=by
 simp [zeroValue,typeInfo,hi,hz]
theorem s_build {z:List D} {parts:List (Nat×Nat×Opd)} {vs:List V} {out:List V} {fr:Fr} (hf:fillV (z.map .d) (plOf parts) vs=some out) (hl:(opOf parts).length=vs.length):LStp P G nt (.build z parts) ((opOf parts).zip vs) [] (.agg out) ⟨[],[]⟩ fr fr:=by
 refine .pure fun U E H o c ac w ht hR hE hH=>?_
 generalize hop:o.op=op at ht
 cases ht with
 | @build t fs i zv _ ps _ ht hi hz hs hp hall=>
  obtain ⟨p1,p2,p3⟩:=trParts_ok hR hp (Evs.unzip hl hE)
  obtain ⟨hzl,hzr⟩:=trDs_ok hs
  have hzero:CellsRel c H U w (z.map .d) zv.cells:=⟨by simpa using hzl,fun j x cv hx hcv=>by
   simp only [List.getElem?_map,Option.map_eq_some_iff] at hx
   obtain ⟨y,hy,rfl⟩:=hx
   have hd:=hzr c.A w j y cv hy (by simpa using hcv)
   exact ⟨.d _ _ hd,hd.oneCell⟩⟩
  obtain ⟨l,m1,m2,m3⟩:=mapM_places (P:=P) hall w
  have hpl:(ps.toList.map fun p=>(p.1,ac.eval p.2)).map (fun p=>l.toArray[p.1]?)=(plOf parts).map some:=by
   rw [← p1,List.map_map]
   refine List.map_congr_left fun p _=>?_
   simp only [Function.comp,fieldPl,List.getElem?_toArray,m3,Array.getElem?_toList]
   rfl
  obtain ⟨cur',f1,f2⟩:=fill_ok hzero hpl (by simpa using p2) p3 hf
  refine ⟨by simp,.agg cur',?_,?_⟩
  ·have hm:(fs.mapM (fun f=>(do pure (f.offset,← sizeOf f.type):Sem (Nat×Nat)))).run P w=.ok l.toArray w:=by
    rw [← Array.toArray_toList (xs:=fs),List.mapM_toArray]
    simp only [Sem.run_map]
    erw [m1];rfl
   have hps:(ps.map fun x=>(x.1,ac.eval x.2)).toList=ps.toList.map fun p=>(p.1,ac.eval p.2):=by simp
   simp only [execOp,hop,Instr.build,run_underlying ht,Sem.run_bind,Result.andThen_ok,run_zeroValue hi hz,hps]
   rw [hm]
   have f1':Instr.fill (fun x=>l.toArray[x]?) zv.cells (List.map (fun x=>(x.fst,ac.eval x.snd)) ps.toList)=some cur':=f1
   simp only [Result.andThen_ok,f1',Sem.run_pure]
  ·have:=VRel.agg (c:=c) (H:=H) (U:=U) (w:=w) out cur'.toList (by simpa using f2.1) (fun i x v hx hv=>(f2.2 i x v hx (by simpa using hv)).1) f2.one
   simpa using this
 | @buildA t n e i j zv _ ps _ ht hi hz hj hs hp=>
  obtain ⟨p1,p2,p3⟩:=trParts_ok hR hp (Evs.unzip hl hE)
  obtain ⟨hzl,hzr⟩:=trDs_ok hs
  have hzero:CellsRel c H U w (z.map .d) zv.cells:=⟨by simpa using hzl,fun j x cv hx hcv=>by
   simp only [List.getElem?_map,Option.map_eq_some_iff] at hx
   obtain ⟨y,hy,rfl⟩:=hx
   have hd:=hzr c.A w j y cv hy (by simpa using hcv)
   exact ⟨.d _ _ hd,hd.oneCell⟩⟩
  have hpl:(ps.toList.map fun p=>(p.1,ac.eval p.2)).map (fun p=>(fun i=>some (i*j.size,j.size)) p.1)=(plOf parts).map some:=by
   rw [← p1,List.map_map]
   rfl
  obtain ⟨cur',f1,f2⟩:=fill_ok (place:=fun i=>some (i*j.size,j.size)) hzero hpl (by simpa using p2) p3 hf
  refine ⟨by simp,.agg cur',?_,?_⟩
  ·have hps:(ps.map fun x=>(x.1,ac.eval x.2)).toList=ps.toList.map fun p=>(p.1,ac.eval p.2):=by simp
   have f1':Instr.fill (fun i=>some (i*j.size,j.size)) zv.cells (List.map (fun x=>(x.fst,ac.eval x.snd)) ps.toList)=some cur':=f1
   simp only [execOp,hop,Instr.build,run_underlying ht,Sem.run_bind,Result.andThen_ok,run_zeroValue hi hz,run_sizeOf hj,hps,f1',Sem.run_pure]
  ·have:=VRel.agg (c:=c) (H:=H) (U:=U) (w:=w) out cur'.toList (by simpa using f2.1) (fun i x v hx hv=>(f2.2 i x v hx (by simpa using hv)).1) f2.one
   simpa using this
def repD:Nat→List D→List D
 | 0,_=>[]
 | n+1,z=>z++repD n z
def unV:List V→Option (List D)
 | []=>some []
 | .d x::l=>match unV l with | some xs=>some (x::xs) | none=>none
 | _::_=>none
def rowsOf (es:Nat):Nat→List D→List (List D)
 | 0,_=>[]
 | n+1,l=>l.take es::rowsOf es n (l.drop es)
theorem unV_eq:∀ {l:List V} {xs:List D},unV l=some xs→l=xs.map .d
 | [],xs,h=>by simp only [unV] at h;cases h;rfl
 | v::l,xs,h=>by
  cases v<;>simp only [unV] at h<;>try (cases h;done)
  split at h
  ·rename_i ys hy;cases h;rw [unV_eq hy];rfl
  ·cases h
theorem repD_len (z:List D):∀ n,(repD n z).length=n*z.length
 | 0=>by simp [repD]
 | n+1=>by simp [repD,repD_len z n,Nat.add_mul,Nat.add_comm]
theorem repD_get (z:List D) (hz:0<z.length):∀ (n j:Nat),(repD n z)[j]?=if j<n*z.length then z[j % z.length]? else none
 | 0,j=>by simp [repD]
 | n+1,j=>by
  simp only [repD]
  by_cases hj:j<z.length
  ·rw [List.getElem?_append_left hj,if_pos (by rw [Nat.add_mul];omega),Nat.mod_eq_of_lt hj]
  ·rw [List.getElem?_append_right (by omega),repD_get z hz n]
   have e1:(j - z.length<n*z.length)=(j<(n+1)*z.length):=by
    rw [Nat.add_mul,Nat.one_mul];apply propext;omega
   have e2:(j - z.length) % z.length=j % z.length:=by
    conv=>rhs;rw [← Nat.sub_add_cancel (show z.length≤j by omega)]
    rw [Nat.add_mod_right]
   simp only [e1,e2]
theorem rowsOf_len (es:Nat):∀ (n:Nat) (l:List D),(rowsOf es n l).length=n
 | 0,_=>rfl
 | n+1,l=>by simp [rowsOf,rowsOf_len es n]
theorem rowsOf_get (es:Nat):∀ (n:Nat) (l:List D) (i:Nat),i<n→(rowsOf es n l)[i]?=some ((l.drop (i*es)).take es)
 | 0,_,_,h=>absurd h (Nat.not_lt_zero _)
 | n+1,l,0,_=>by simp [rowsOf]
 | n+1,l,i+1,h=>by
  simp only [rowsOf,List.getElem?_cons_succ]
  rw [rowsOf_get es n _ i (by omega),List.drop_drop]
  congr 3;rw [Nat.add_mul];omega
theorem BRel.row_of {c:Cx} {H:Hp} {U:Nat→Prop} {w w':World} {g T es n:Nat} {cs:List D} {cur:Array Value} (hg:w'.heap[g]?=some (.cells cur T (0,0))) (hes:0<es) (hcs:cs.length=n*es) (hn:n≤maxLen)
  (hc:CellsRel c H U w (cs.map .d) cur) (hw:∀ g,c.A g→w'.heap[g]?=w.heap[g]?) {c':Cx} (hA:c'.A=c.A) {H':Hp} {U':Nat→Prop}:BRel c' H' U' w' g n (.row T es (rowsOf es n cs)):=by
 have hsz:cur.size=n*es:=by rw [hc.1];simpa using hcs
 refine ⟨cur,hg,hsz,by rw [rowsOf_len];exact Nat.le_refl _,hn,hes,fun i row hr=>?_,fun i j row x hr hx=>?_⟩
 ·have hi:i<n:=by have:=(List.getElem?_eq_some_iff.1 hr).1;rwa [rowsOf_len] at this
  rw [rowsOf_get es n cs i hi] at hr;cases hr
  have:(i+1)*es≤n*es:=Nat.mul_le_mul_right _ hi
  rw [Nat.add_mul] at this
  simp;omega
 ·have hi:i<n:=by have:=(List.getElem?_eq_some_iff.1 hr).1;rwa [rowsOf_len] at this
  rw [rowsOf_get es n cs i hi] at hr;cases hr
  rw [List.getElem?_take] at hx
  split at hx
  ·rename_i hj
   rw [List.getElem?_drop] at hx
   have hlt:=(List.getElem?_eq_some_iff.1 hx).1
   have hlt':i*es+j<cur.size:=by omega
   refine ⟨cur[i*es+j],Array.getElem?_eq_getElem hlt',?_⟩
   have:=(hc.2 (i*es+j) (.d x) _ (by rw [List.getElem?_map,hx];rfl) (Array.getElem?_eq_getElem hlt')).1
   cases this with
   | d _ _ h=>exact h.mono (fun g hg=>by rw [hA];exact hg) hw
  ·cases hx
theorem s_bsl {T es n:Nat} {z:List D} {parts:List (Nat×Nat×Opd)} {vs out:List V} {cs:List D} {nm:Nat} {fr:Fr} (hf:fillV ((repD n z).map .d) (plOf parts) vs=some out) (hu:unV out=some cs) (hl:(opOf parts).length=vs.length) (hlen:cs.length=n*es) (hn:n≤maxLen) :
  LStp P G nt (.bsl T es n z parts) ((opOf parts).zip vs) [] (.own nm n) ⟨[(nm,.row T es (rowsOf es n cs))],[nm]⟩ fr fr:=by
 intro U E H o F c a w next Q ht hF hR hE hH hnw k
 generalize hop:o.op=op at ht
 cases ht with
 | @bsl t e n0 j zv _ ps _ ht hj hz hs hnl hj0 hzs hp=>
  obtain ⟨p1,p2,p3⟩:=trParts_ok hR hp (Evs.unzip hl hE)
  obtain ⟨hzl,hzr⟩:=trDs_ok hs
  have hzsz:zv.cells.size=j.size:=by simpa [hzs] using hzl
  have hinit:CellsRel c H U w ((repD n z).map .d) ((Array.range (n*j.size)).map (zv.cells[· % zv.cells.size]!)):=by
   refine ⟨by simp [repD_len,hzs],fun i x cv hx hcv=>?_⟩
   rw [List.getElem?_map,repD_get z (by omega)] at hx
   by_cases hi:i<n*z.length
   ·rw [if_pos hi] at hx
    simp only [Option.map_eq_some_iff] at hx
    obtain ⟨y,hy,rfl⟩:=hx
    rw [hzs] at hi
    rw [Array.getElem?_map,Array.getElem?_eq_getElem (by simpa using hi)] at hcv
    simp only [Array.getElem_range,Option.map_some,Option.some.injEq] at hcv
    have hlt:i % zv.cells.size<zv.cells.size:=Nat.mod_lt _ (by omega)
    rw [getElem!_pos zv.cells (i % zv.cells.size) hlt] at hcv
    have hd:=hzr c.A w (i % z.length) y cv hy (by
     rw [hzs,← hzsz,Array.getElem?_toList,Array.getElem?_eq_getElem hlt,hcv])
    exact ⟨.d _ _ hd,hd.oneCell⟩
   ·rw [if_neg hi] at hx;cases hx
  have hpl:(ps.toList.map fun p=>(p.1,a.eval p.2)).map (fun p=>some (p.1*j.size,j.size))=(plOf parts).map some:=by
   rw [← p1,List.map_map];rfl
  obtain ⟨cur',f1,f2⟩:=fill_ok (place:=fun i=>some (i*j.size,j.size)) hinit hpl (by simpa using p2) p3 hf
  rw [unV_eq hu] at f2
  obtain ⟨hst,hR',hx⟩:=hR.new nm n (.row T j.size (rowsOf j.size n cs)) (.cells cur' T) (hnw nm (by simp)) (fun hs hA=>BRel.row_of (heap_alloc_at _ _) hj0 hlen hn f2 hA rfl (H':=upd H nm (.row T j.size (rowsOf j.size n cs))) (U':=usOf [nm] U))
  refine wp_value hF (cv:=.slice (some ⟨w.heap.size,0,none⟩) n n) (by simp [hop]) ?_ (k _ _ (w.alloc (.cells cur' T)) hst hR' ?_ hx)
  ·have hps:(ps.map fun x=>(x.1,a.eval x.2)).toList=ps.toList.map fun p=>(p.1,a.eval p.2):=by simp
   have hgt:¬ n*j.size > 2 ^ 24:=by omega
   simp only [execOp,hop,Instr.buildSlice,run_underlying ht,Sem.run_bind,Result.andThen_ok,run_sizeOf hj,hps,hgt,if_false]
   by_cases h0:n*j.size=0
   ·have hn0:n=0:=by rcases Nat.mul_eq_zero.1 h0 with h | h;exact h;omega
    subst hn0
    have hps0:ps.toList=[]:=by
     cases hpsl:ps.toList with
     | nil=>rfl
     | cons p l=>
      rw [hpsl] at hp p1 p2
      cases parts with
      | nil=>simp [plOf] at p1
      | cons q parts=>
       obtain ⟨o1,s1,x1⟩:=q
       cases vs with
       | nil=>simp at p2
       | cons v vs=>
        simp only [plOf,List.map_cons,List.cons.injEq,Option.some.injEq,Prod.mk.injEq] at p1
        simp only [repD,List.map_nil,plOf,fillV] at hf
        split at hf
        ·have:(Nat.ble (o1+s1) 0)=false:=by
          cases hb:Nat.ble (o1+s1) 0 with
          | false=>rfl
          | true=>have:=Nat.le_of_ble_eq_true hb;omega
         simp [this] at hf
        ·cases hf
    rw [hps0] at f1 ⊢
    simp only [List.map_nil,Instr.fill,Nat.zero_mul] at f1 ⊢
    cases f1
    have e0:∀ f:Nat→Value,Array.map f (Array.range 0)=#[]:=fun f=>by apply Array.ext';simp
    simp only [e0,if_true,Sem.run_bind,Sem.run_pure,Result.andThen_ok,Instr.fill]
    simp [newRow]
   ·simp only [h0,if_false,Sem.run_bind,run_zeroValue hj hz,Result.andThen_ok,Sem.run_pure,f1]
    simp [newRow]
  ·refine .own nm n _ n (.inr (by simp)) hn (fun T' es' xs h=>?_) (fun T' es' xs h _=>.inl ⟨w.heap.size,upd_same _ _ _,rfl⟩)
   have:upd H nm (.row T j.size (rowsOf j.size n cs)) nm=some (.row T' es' xs):=h
   rw [upd_same] at this;cases this
   rw [rowsOf_len];exact Nat.le_refl _
theorem s_mkf {f:Nat} {fs cs:List Opd} {us vs:List V} {fr:Fr} (hl1:fs.length=us.length) (hl2:cs.length=vs.length):LStp P G nt (.mkf f fs cs) (fs.zip us++cs.zip vs) [] (.clo f us vs) ⟨[],[]⟩ fr fr:=by
 refine .pure fun U E H o c ac w ht hR hE hH=>?_
 have hsplit:∀ {l m:List (Opd×V)},Evs G E (l++m)→Evs G E l∧Evs G E m:=by
  intro l
  induction l with
  | nil=>exact fun h=>⟨trivial,h⟩
  | cons p l ih=>exact fun {m} h=>⟨⟨h.1,(ih h.2).1⟩,(ih h.2).2⟩
 obtain ⟨h1,h2⟩:=hsplit hE
 generalize hop:o.op=op at ht
 cases ht with
 | @mkf _ fs' cs' _ _ hf hc=>
  obtain ⟨l1,r1⟩:=evs_ok hR hf (Evs.unzip hl1 h1)
  obtain ⟨l2,r2⟩:=evs_ok hR hc (Evs.unzip hl2 h2)
  refine ⟨by simp,.func (.func f) (fs'.toList.map ac.eval).toArray (cs'.toList.map ac.eval).toArray,?_,.clo f us vs _ _ l1 l2 r1 r2⟩
  simp only [execOp,hop,Instr.makeFunc,Sem.run_bind,Sem.run_pure,Result.andThen_ok]
  have e1:∀ l:Array Operand,l.map ac.eval=(l.toList.map ac.eval).toArray:=fun l=>by apply Array.ext';simp
  rw [e1,e1]
def mmI (mx:Bool) (x y:Int):Int:=if mx then max x y else min x y
def mmD (k:IntKind) (mx:Bool):Int→List V→Option Int
 | x,[]=>some x
 | x,.d (.int k' y)::l=>if k'=k then mmD k mx (mmI mx x y) l else none
 | _,_=>none
theorem run_mm2 (k:IntKind) (mx:Bool) (x y:Int) (w:World):((if mx then Builtin.max2 else Builtin.min2) (.int k x) (.int k y)).run P w=.ok (.int k (mmI mx x y)) w:=by
 cases mx with
 | true=>
  have:mmI true x y=if y > x then y else x:=by
   simp only [mmI,if_true]
   split<;>omega
  rw [this];rfl
 | false=>
  have:mmI false x y=if y<x then y else x:=by
   simp only [mmI,Bool.false_eq_true,if_false]
   split<;>omega
  rw [this];rfl
theorem run_mm {k:IntKind} {mx:Bool} {c:Cx} {H:Hp} {U:Nat→Prop}:∀ {vs:List V} {rs:List Value} {x r:Int} {w:World},rs.length=vs.length→(∀ (i:Nat) y v,vs[i]?=some y→rs[i]?=some v→VRel c H U w y v)→mmD k mx x vs=some r →
  (rs.foldlM (if mx then Builtin.max2 else Builtin.min2) (.int k x)).run P w=.ok (.int k r) w
 | [],rs,x,r,w,hl,hr,h=>by
  simp only [mmD] at h;cases h
  cases rs with
  | nil=>rfl
  | cons=>simp at hl
 | v::vs,rs,x,r,w,hl,hr,h=>by
  cases rs with
  | nil=>simp at hl
  | cons u rs=>
   cases v with
   | d y=>
    cases y with
    | int k' y=>
     simp only [mmD] at h
     split at h
     ·rename_i hk;subst hk
      have:=(hr 0 (.d (.int k' y)) u (by simp) (by simp)).int_inv
      subst this
      rw [List.foldlM_cons]
      simp only [Sem.run_bind,run_mm2,Result.andThen_ok]
      exact run_mm (by simpa using hl) (fun i y v hy hv=>hr (i+1) y v (by simpa using hy) (by simpa using hv)) h
     ·cases h
    | _=>simp [mmD] at h
   | _=>simp [mmD] at h
theorem s_mm {mx:Bool} {xs:List Opd} {k:IntKind} {x r:Int} {vs:List V} {fr:Fr} (h:mmD k mx x vs=some r) (hl:xs.length=vs.length+1):LStp P G nt (.mm mx xs) (xs.zip (.d (.int k x)::vs)) [] (.d (.int k r)) ⟨[],[]⟩ fr fr:=by
 refine .pure fun U E H o c ac w ht hR hE hH=>?_
 generalize hop:o.op=op at ht
 have key : ∀ ys : Array Operand, trOs ys.toList = some xs → (((match (ys.map ac.eval).toList with | [] => stuck "max: at least one argument expected" | x :: rest => rest.foldlM (if mx then Builtin.max2 else Builtin.min2) x : Sem Value)).run P w = .ok (.int k r) w) := fun ys hy => by
  obtain ⟨l1,r1⟩:=evs_ok hR hy (Evs.unzip (by simpa using hl) hE)
  rw [Array.toList_map]
  cases hys:ys.toList.map ac.eval with
  | nil=>rw [hys] at l1;simp at l1
  | cons u us=>
   rw [hys] at l1 r1
   have:=(r1 0 (.d (.int k x)) u (by simp) (by simp)).int_inv
   subst this
   exact run_mm (by simpa using l1) (fun i y v hy hv=>r1 (i+1) y v (by simpa using hy) (by simpa using hv)) h
 cases ht with
 | @mx ys ts _ hx=>
  refine ⟨by simp,.int k r,?_,.d _ _ (.int _ _)⟩
  have hk:=key ys hx
  have:(Builtin.max_ ts o.type (ys.map ac.eval)).run P w=.ok (.int k r) w:=by
   unfold Builtin.max_
   cases hys:(ys.map ac.eval).toList with
   | nil=>rw [hys] at hk;cases hk
   | cons u us=>rw [hys] at hk;exact hk
  simp only [execOp,hop,resolve,invoke,builtin,Sem.run_bind,Sem.run_pure,Result.andThen_ok]
  rw [this];rfl
 | @mn ys ts _ hx=>
  refine ⟨by simp,.int k r,?_,.d _ _ (.int _ _)⟩
  have hk:=key ys hx
  have:(Builtin.min_ ts o.type (ys.map ac.eval)).run P w=.ok (.int k r) w:=by
   unfold Builtin.min_
   cases hys:(ys.map ac.eval).toList with
   | nil=>rw [hys] at hk;cases hk
   | cons u us=>rw [hys] at hk;exact hk
  simp only [execOp,hop,resolve,invoke,builtin,Sem.run_bind,Sem.run_pure,Result.andThen_ok]
  rw [this];rfl
end
end Go.Abs
namespace Go.Abs
section
variable {P:Program} {G:Gl} {nt:Nat}
inductive Src (rs:List (Nat×Blk)) (es:Nat):V→List (List D)→Prop where
 | data (ys:List (List D)):Src rs es (.d (.sl es ys)) ys
 | nil:Src rs es (.d .nilSl) []
 | own (q T:Nat) (ys:List (List D)) (h:(q,.row T es ys)∈rs):Src rs es (.own q ys.length) ys
theorem Rds.mem {H:Hp}:∀ {rs:List (Nat×Blk)},Rds H rs→∀ {q:Nat} {b:Blk},(q,b)∈rs→H q=some b
 | [],_,q,b,h=>by cases h
 | (r,b0)::l,⟨h1,h2⟩,q,b,h=>by
  cases h with
  | head=>exact h1
  | tail _ h=>exact Rds.mem h2 h
theorem src_ok {c:Cx} {H:Hp} {U:Nat→Prop} {fr:Fr} {w:World} (h:HRel G c H U fr w) {rs:List (Nat×Blk)} (hrs:Rds H rs) {es:Nat} {x:V} {ys:List (List D)} {xv:Value} (hs:Src rs es x ys) (hv:VRel c H U w x xv) :
  ∃ a cap,xv=.slice a ys.length cap∧(∀ (i:Nat) row,ys[i]?=some row→row.length=es)∧(0<ys.length→∃ g o,a=some ⟨g,o,none⟩∧∃ cv:Nat→Nat→Value,
   (∀ i j,i<ys.length→j<es→w.cell? ⟨g,o+i*es+j,none⟩=some (cv i j))∧∀ (i j:Nat) row x,ys[i]?=some row→row[j]?=some x→DRel c.A w x (cv i j)):=by
 cases hs with
 | data ys=>
  cases hv with
  | d _ _ hd=>
   cases hd with
   | sl _ _ a cp cv hc hb hA hes hcell hrel=>
    refine ⟨a,cp,rfl,hes,fun hp=>?_⟩
    obtain ⟨g,o,e,hg⟩:=hA hp
    exact ⟨g,o,e,cv,hcell g o e,hrel⟩
 | nil=>
  cases hv with
  | d _ _ hd=>cases hd;exact ⟨none,0,rfl,fun i row h=>by simp at h,fun h=>absurd h (by simp)⟩
 | own q T ys hq=>
  have hr:=hrs.mem hq
  cases hv with
  | own _ _ a m hu hb hn hp=>
   have hp:=hp T es ys hr rfl
   rcases hp with ⟨g,hf,rfl⟩ | ⟨hf,rfl,rfl⟩
   ·obtain ⟨g',m',hf',hB⟩:=(h.pl q _ hr).resolve_right (fun hn=>by rw [hf] at hn;cases hn.1)
    rw [hf] at hf';cases hf'
    obtain ⟨cur,hg,hc,hle,hm,hes,hu,hd⟩:=hB
    refine ⟨_,m,rfl,hu,fun _=>⟨g,0,rfl,fun i j=>cur.getD (i*es+j) .nilFunc,fun i j hi hj=>?_,fun i j row x hr hx=>?_⟩⟩
    ·have h1:(i+1)*es≤m*es:=Nat.mul_le_mul_right _ (by omega)
     rw [Nat.add_mul] at h1
     simp only [Array.getD_eq_getD_getElem?]
     rw [cell_at hg,Nat.zero_add,Array.getElem?_eq_getElem (by omega)];rfl
    ·obtain ⟨u,h1,h2⟩:=hd i j row x hr hx
     simp only [Array.getD_eq_getD_getElem?,h1];exact h2
   ·refine ⟨none,0,rfl,?_,fun hp=>?_⟩
    ·rcases h.pl q _ hr with ⟨g,m,h1,_⟩ | ⟨_,h2⟩
     ·rw [hf] at h1;cases h1
     ·cases h2;intro i row h;simp at h
    ·rcases h.pl q _ hr with ⟨g,m,h1,_⟩ | ⟨_,h2⟩
     ·rw [hf] at h1;cases h1
     ·cases h2;exact absurd hp (by simp)
theorem div_lt_of {p m es:Nat} (hes:0<es) (h:p<m*es):p / es<m:=Nat.div_lt_of_lt_mul (by rw [Nat.mul_comm];exact h)
theorem app_core {t ty T es bytes:Nat} {j:TypeInfo} {z:Value} {zs:List D} (ht:P.underlying t=some (.slice T)) (hj:P.info? T=some j) (hz:j.zero=some z) (hzs:trDs z.cells.toList=some zs) (hzl:zs.length=j.size) (hj0:0<j.size) (hb0:0<j.bytes) (hes:j.size=es) (hby:j.bytes=bytes)
  {w:World} {v:Value} {n:Nat} {old:List Value} (hown:w.ownsRow 0 T es v n old) {ad:Addr} {m cap:Nat} {news:List Value} (hl:news.length=m*es) (hnews:∀ (i:Nat) u,news[i]?=some u→w.cell? (ad.add i)=some u) (h1:∀ u∈news,u.oneCell'=true)
  (hb:(n+m)*bytes≤140737488355328) (hm:0<m) :
  ∃ w' g cp cur,(Builtin.append_ #[t,t] ty #[v,.slice (some ad) m cap]).run P w=.ok (.slice (some ⟨g,0,none⟩) (n+m) cp) w'∧w'.heap[g]?=some (.cells cur T (0,0))∧n+m≤cp∧cp≤maxLen∧cur.size=cp*es ∧
   cur.toList.take ((n+m)*es)=old++news∧w.grownBy w' v.ownBlock∧(v.ownBlock=some g∨g=w.heap.size):=by
 have hle:n+m≤maxLen:=by
  have h2:(n+m)*1≤(n+m)*bytes:=Nat.mul_le_mul_left _ (by omega)
  rw [Nat.mul_one] at h2
  simp only [maxLen];omega
 have hzsz:z.cells.size=es:=by have:=(trDs_ok hzs).1;simp at this;omega
 obtain ⟨v',w',hr,ho,hg,hnil,hbk⟩:=run_append_own_at (P:=P) w 0 t ty T j z es bytes ht hj hz hes hby hzsz (by omega) v n old hown ad m cap news hl hnews h1 hle hb (Nat.zero_le _)
 rcases ho.2 with ⟨hv',hz'⟩ | ⟨g,cp,cur,hv',_,hcur,hle1,hle2,hsz,htake⟩
 ·exact absurd (hnil.1 hv').2 (by omega)
 ·subst hv'
  refine ⟨w',g,cp,cur,hr,hcur,hle1,hle2,hsz,htake,hg,?_⟩
  rcases hbk with hbk | hbk
  ·exact .inl hbk.symm
  ·simp [Value.ownBlock] at hbk;exact .inr hbk
def flatC (cv:Nat→Nat→Value) (m es:Nat):List Value:=(List.range (m*es)).map fun p=>cv (p / es) (p % es)
theorem flat_ok {w:World} {A:Nat→Prop} {g o es:Nat} {ys:List (List D)} {cv:Nat→Nat→Value} (hes:0<es) (hu:∀ (i:Nat) row,ys[i]?=some row→row.length=es) (hc:∀ i j,i<ys.length→j<es→w.cell? ⟨g,o+i*es+j,none⟩=some (cv i j))
  (hd:∀ (i j:Nat) row x,ys[i]?=some row→row[j]?=some x→DRel A w x (cv i j)) :
  (flatC cv ys.length es).length=ys.length*es∧(∀ (i:Nat) u,(flatC cv ys.length es)[i]?=some u→w.cell? ((⟨g,o,none⟩:Addr).add i)=some u)∧(∀ u∈flatC cv ys.length es,u.oneCell'=true):=by
 refine ⟨by simp [flatC],fun i u hi=>?_,fun u hu'=>?_⟩
 ·rw [flatC,List.getElem?_map] at hi
  by_cases h:i<ys.length*es
  ·rw [List.getElem?_range h] at hi
   simp only [Option.map_some,Option.some.injEq] at hi
   subst hi
   rw [add_none]
   have:=hc (i / es) (i % es) (div_lt_of hes h) (Nat.mod_lt _ hes)
   have e:o+i / es*es+i % es=o+i:=by have:=Nat.div_add_mod i es;rw [Nat.mul_comm] at this;omega
   rwa [e] at this
  ·rw [List.getElem?_eq_none (by simpa using h)] at hi;cases hi
 ·obtain ⟨i,hi⟩:=List.getElem?_of_mem hu'
  rw [flatC,List.getElem?_map] at hi
  by_cases h:i<ys.length*es
  ·rw [List.getElem?_range h] at hi
   simp only [Option.map_some,Option.some.injEq] at hi
   subst hi
   have h1:=div_lt_of hes h
   have h2:=hu _ _ (List.getElem?_eq_getElem h1)
   exact (hd (i / es) (i % es) _ _ (List.getElem?_eq_getElem h1) (List.getElem?_eq_getElem (by rw [h2];exact Nat.mod_lt _ hes))).oneCell
  ·rw [List.getElem?_eq_none (by simpa using h)] at hi;cases hi
theorem app_nil {t ty T:Nat} {j:TypeInfo} (ht:P.underlying t=some (.slice T)) (hj:P.info? T=some j) {w:World} {base:Option Addr} {n cp:Nat} (hle:n≤cp) (a:Option Addr) (cap:Nat) :
  (Builtin.append_ #[t,t] ty #[.slice base n cp,.slice a 0 cap]).run P w=.ok (.slice base n cp) w:=by
 have hz:(do pure ((← underlying t) matches .int _):Sem Bool).run P w=.ok false w:=by simp [run_underlying ht]
 unfold Builtin.append_
 simp only [Sem.run_bind,run_underlying ht,Result.andThen_ok,run_sizeOf hj,Builtin.lenOf,Sem.run_pure]
 cases a with
 | none=>
  cases base with
  | none=>simp [run_underlying ht,run_sizeOf hj,Builtin.firstCells,hle]
  | some b=>simp [run_underlying ht,run_sizeOf hj,Builtin.firstCells,hle,storeCells]
 | some ad=>
  cases base with
  | none=>simp [run_underlying ht,run_sizeOf hj,Builtin.firstCells,hle,loadCells,loadCellsFrom]
  | some b=>simp [run_underlying ht,run_sizeOf hj,Builtin.firstCells,hle,loadCells,loadCellsFrom,storeCells]
theorem row_app {c':Cx} {H':Hp} {U':Nat→Prop} {A:Nat→Prop} {w w':World} {g T es n m cp:Nat} {cur:Array Value} {xs ys:List (List D)} {old:List Value} {cv:Nat→Nat→Value} (hg:w'.heap[g]?=some (.cells cur T (0,0))) (hes:0<es) (hxs:xs.length=n) (hys:ys.length=m)
  (hle:n+m≤cp) (hcp:cp≤maxLen) (hsz:cur.size=cp*es) (htake:cur.toList.take ((n+m)*es)=old++flatC cv m es) (hol:old.length=n*es) (hux:∀ (i:Nat) row,xs[i]?=some row→row.length=es) (huy:∀ (i:Nat) row,ys[i]?=some row→row.length=es)
  (hdx:∀ (i j:Nat) row x,xs[i]?=some row→row[j]?=some x→∃ cv,old[i*es+j]?=some cv∧DRel A w x cv) (hdy:∀ (i j:Nat) row x,ys[i]?=some row→row[j]?=some x→DRel A w x (cv i j)) (hA:∀ g,A g→c'.A g) (hw:∀ g,A g→w'.heap[g]?=w.heap[g]?) :
  BRel c' H' U' w' g cp (.row T es (xs++ys)):=by
 have hle':(n+m)*es≤cp*es:=Nat.mul_le_mul_right _ hle
 have hcur:∀ (p:Nat),p<(n+m)*es→cur[p]?=(old++flatC cv m es)[p]?:=fun p hp=>by
  rw [← htake,List.getElem?_take,if_pos hp];simp
 refine ⟨cur,hg,hsz,by simp;omega,hcp,hes,fun i row hr=>?_,fun i j row x hr hx=>?_⟩
 ·by_cases hi:i<xs.length
  ·rw [List.getElem?_append_left hi] at hr;exact hux i row hr
  ·rw [List.getElem?_append_right (by omega)] at hr;exact huy _ row hr
 ·by_cases hi:i<xs.length
  ·rw [List.getElem?_append_left hi] at hr
   obtain ⟨u,h1,h2⟩:=hdx i j row x hr hx
   have hp:=(List.getElem?_eq_some_iff.1 h1).1
   refine ⟨u,?_,h2.mono hA hw⟩
   rw [hcur _ (by rw [Nat.add_mul];omega),List.getElem?_append_left hp,h1]
  ·rw [List.getElem?_append_right (by omega)] at hr
   have hk:=(List.getElem?_eq_some_iff.1 hr).1
   have hj:j<es:=by have:=huy _ row hr;have:=(List.getElem?_eq_some_iff.1 hx).1;omega
   have h1:(i - xs.length+1)*es≤m*es:=Nat.mul_le_mul_right _ (by omega)
   rw [Nat.add_mul] at h1
   have h2:i*es=n*es+(i - xs.length)*es:=by rw [← Nat.add_mul];congr 1;omega
   refine ⟨cv (i - xs.length) j,?_,(hdy _ j row x hr hx).mono hA hw⟩
   rw [hcur _ (by rw [Nat.add_mul];omega),List.getElem?_append_right (by omega),flatC,List.getElem?_map,List.getElem?_range (by omega)]
   have e:i*es+j - old.length=j+(i - xs.length)*es:=by omega
   rw [e]
   simp only [Option.map_some,Option.some.injEq]
   rw [Nat.add_mul_div_right _ _ hes,Nat.add_mul_mod_self_right,Nat.div_eq_of_lt hj,Nat.mod_eq_of_lt hj,Nat.zero_add]
theorem s_app {T es bytes:Nat} {s x:Opd} {r:Nat} {xs ys:List (List D)} {xv:V} {rs:List (Nat×Blk)} {fr:Fr} (hs:Src rs es xv ys) (hr:(r,.row T es xs)∈rs) (hb:(xs.length+ys.length)*bytes≤140737488355328) :
  LStp P G nt (.app T es bytes s x) [(s,.own r xs.length),(x,xv)] rs (.own r (xs.length+ys.length)) ⟨[(r,.row T es (xs++ys))],[]⟩ fr fr:=by
 intro U E H o F c a w next Q ht hF hR hE hH hnw k
 generalize hop:o.op=op at ht
 cases ht with
 | @app t e j z zs so xo _ _ ht hj hz hzs hzl hj0 hb0 h1 h2=>
  have e1:=ev_ok hR h1 hE.1
  have e2:=ev_ok hR h2 hE.2.1
  generalize hav:a.eval so=av at e1
  generalize hbv:a.eval xo=bv at e2
  obtain ⟨ba,cap,rfl,huy,hcy⟩:=src_ok hR.h hH hs e2
  have hHr:=hH.mem hr
  have hrow:o.op=.call { callee:=.builtin .append,args:=#[so,xo],argTypes:=#[t,t] }:=hop
  have hexec:∀ v' w',(Builtin.append_ #[t,t] o.type #[av,.slice ba ys.length cap]).run P w=.ok v' w'→(execOp a.eval o).run P w=.ok (.value v') w':=fun v' w' hh=>by
   simp only [execOp,hrow,resolve,invoke,builtin,Sem.run_bind,Sem.run_pure,Result.andThen_ok,List.map_toArray,List.map_cons,List.map_nil,hav,hbv,hh]
  cases e1 with
  | own _ _ ad m hu hbm hn hp=>
   have hp:=hp _ _ _ hHr rfl
   have hpl:=hR.h.pl r _ hHr
   by_cases hm:ys=[]
   ·subst hm
    have hle:xs.length≤m:=by
     rcases hp with ⟨g,hf,rfl⟩ | ⟨hf,rfl,rfl⟩
     ·obtain ⟨g',m',hf',hB⟩:=hpl.resolve_right (fun hn=>by rw [hf] at hn;cases hn.1)
      rw [hf] at hf';cases hf'
      obtain ⟨cur,hg,hc,hle,_⟩:=hB;exact hle
     ·rcases hpl with ⟨g,m,h1,_⟩ | ⟨_,h2⟩
      ·rw [hf] at h1;cases h1
      ·cases h2;exact Nat.le_refl _
    have hrun:=app_nil (P:=P) (ty:=o.type) ht hj (w:=w) (base:=ad) hle ba cap
    have hup:upd H r (.row T j.size xs)=H:=by
     funext q
     simp only [upd]
     split
     ·rename_i h;rw [← h,hHr]
     ·rfl
    refine wp_value hF (by simp [hop]) (hexec _ _ hrun) (k c _ w ?_ ?_ ?_ ?_)
    ·simp only [List.append_nil,hpOf,usOf_nil,hup];exact HStep.refl _ _ _
    ·simp only [List.append_nil,hpOf,usOf_nil,hup];exact hR
    ·simp only [List.append_nil,hpOf,usOf_nil,hup]
     refine .own r _ ad m hu hbm hn fun T' es' xs' hx _=>?_
     rw [hHr] at hx;cases hx;exact hp
    ·simp only [List.append_nil,hpOf,hup];exact Ext.refl _ _ _
   ·have hm':0<ys.length:=List.length_pos_iff.2 hm
    obtain ⟨g2,o2,rfl,cv,hc,hd⟩:=hcy hm'
    obtain ⟨f1,f2,f3⟩:=flat_ok hj0 huy hc hd
    -- the row as it is
    have hold:∃ old:List Value,w.ownsRow 0 T j.size (.slice ad xs.length m) xs.length old∧old.length=xs.length*j.size∧(∀ (i:Nat) row,xs[i]?=some row→row.length=j.size) ∧
      (∀ (i j':Nat) row x,xs[i]?=some row→row[j']?=some x→∃ cv,old[i*j.size+j']?=some cv∧DRel c.A w x cv):=by
     rcases hp with ⟨g,hf,rfl⟩ | ⟨hf,rfl,rfl⟩
     ·obtain ⟨g',m',hf',hB⟩:=hpl.resolve_right (fun hn=>by rw [hf] at hn;cases hn.1)
      rw [hf] at hf';cases hf'
      obtain ⟨cur,hg,hcs,hle,hmm,hes,hux,hdx⟩:=hB
      have hle':xs.length*j.size≤m*j.size:=Nat.mul_le_mul_right _ hle
      have hl0:(cur.toList.take (xs.length*j.size)).length=xs.length*j.size:=by simp;omega
      refine ⟨cur.toList.take (xs.length*j.size),⟨hl0,.inr ⟨g,m,cur,rfl,Nat.zero_le _,hg,hle,hmm,hcs,rfl⟩⟩,hl0,hux,fun i j' row x hrw hx=>?_⟩
      obtain ⟨u,h1,h2⟩:=hdx i j' row x hrw hx
      have hi:=(List.getElem?_eq_some_iff.1 hrw).1
      have hj':j'<j.size:=by have:=hux i row hrw;have:=(List.getElem?_eq_some_iff.1 hx).1;omega
      have h3:(i+1)*j.size≤xs.length*j.size:=Nat.mul_le_mul_right _ hi
      rw [Nat.add_mul] at h3
      refine ⟨u,?_,h2⟩
      rw [List.getElem?_take,if_pos (by omega)];simpa using h1
     ·rcases hpl with ⟨g,m,h1,_⟩ | ⟨_,h2⟩
      ·rw [hf] at h1;cases h1
      ·cases h2
       exact ⟨[],⟨by simp,.inl ⟨rfl,rfl⟩⟩,by simp,fun i row h=>by simp at h,fun i j' row x h=>by simp at h⟩
    obtain ⟨old,ho,hol,hux,hdx⟩:=hold
    obtain ⟨w',g,cp,cur,hrun,hg,hle1,hle2,hsz,htake,hgr,hbk⟩:=app_core (P:=P) (ty:=o.type) (cap:=cap) ht hj hz hzs hzl hj0 hb0 rfl rfl ho f1 f2 f3 hb hm'
    have hown:∀ g0:Nat,(Value.slice ad xs.length m).ownBlock=some g0→c.fm r=some (g0,m):=fun g0 h0=>by
     rcases hp with ⟨g,hf,rfl⟩ | ⟨hf,rfl,rfl⟩
     ·simp [Value.ownBlock] at h0;subst h0;exact hf
     ·simp [Value.ownBlock] at h0
    have hrowlt:∀ g0:Nat,(Value.slice ad xs.length m).ownBlock=some g0→g0<w.heap.size:=fun g0 h0=>by
     obtain ⟨g',m',hf',cur',hc',_⟩:=hpl.resolve_right (fun hn=>by rw [hown g0 h0] at hn;cases hn.1)
     rw [hown g0 h0] at hf';cases hf'
     exact (Array.getElem?_eq_some_iff.1 hc').1
    have hg':w.heap.size≤g∨∃ b0 m0,H r=some b0∧c.fm r=some (g,m0):=by
     rcases hbk with h | h
     ·exact .inr ⟨_,m,hHr,hown g h⟩
     ·exact .inl (by omega)
    have hst:HStep c H U (c.put r g cp) (upd H r (.row T j.size (xs++ys))) U:=by
     refine ⟨fun _ h=>h,rfl,fun _ h=>h,fun q T' cs hq=>?_,fun q T' es' zs' hq0 hq=>?_,fun q es' hq=>?_,fun q hq=>?_,fun q T' cs hq0 hq=>?_⟩
     ·have hne:r≠q:=fun e=>by subst e;rw [hHr] at hq;cases hq
      exact ⟨upd_other _ _ _ _ hne,cs,(upd_other _ _ _ _ hne).trans hq⟩
     ·by_cases e:r=q
      ·subst e;rw [upd_same] at hq;cases hq
       refine ⟨xs,hHr,by simp,fun hl=>?_⟩
       simp at hl;exact absurd hl (by intro h;rw [h] at hm';simp at hm')
      ·rw [upd_other _ _ _ _ e] at hq
       exact ⟨zs',hq,Nat.le_refl _,fun _=>upd_other _ _ _ _ e⟩
     ·have hne:r≠q:=fun e=>by subst e;rw [hHr] at hq;cases hq
      exact ⟨upd_other _ _ _ _ hne,es',(upd_other _ _ _ _ hne).trans hq⟩
     ·have hne:r≠q:=fun e=>by subst e;rw [hHr] at hq;cases hq
      exact ⟨upd_other _ _ _ _ hne,(upd_other _ _ _ _ hne).trans hq⟩
     ·by_cases e:r=q
      ·subst e;rw [upd_same] at hq;cases hq
      ·rw [upd_other _ _ _ _ e] at hq;exact ⟨cs,hq,upd_other _ _ _ _ e⟩
    have hwA:∀ g0,c.A g0→w'.heap[g0]?=w.heap[g0]?:=fun g0 h0=>hgr.block g0 (hR.h.Alt g0 h0) (fun e=>hR.h.nA _ _ _ _ hHr (hown g0 e.symm) h0)
    have hB:BRel (c.put r g cp) (upd H r (.row T j.size (xs++ys))) U w' g cp (.row T j.size (xs++ys)):=
     row_app hg hj0 rfl rfl hle1 hle2 hsz htake hol hux huy hdx hd (fun _ h=>h) hwA (H':=upd H r (.row T j.size (xs++ys))) (U':=U)
    have hpt:=hR.h.put' (w':=w') r g cp (.row T j.size (xs++ys)) hst hgr.os hgr.tape hgr.output hgr.size (fun g0 hg0 hne hno=>hgr.block g0 hg0 (fun e=>hno _ m hHr (hown g0 e.symm))) hg' hu hB
    refine wp_value hF (by simp [hop]) (hexec _ _ hrun) (k (c.put r g cp) _ w' ?_ ?_ ?_ ?_)
    ·simp only [hpOf,usOf_nil];exact hst
    ·simp only [hpOf,usOf_nil];exact hR.step hst hpt.1 hpt.2
    ·simp only [hpOf,usOf_nil]
     refine .own r _ _ cp hu (by omega) (fun T' es' zs' h=>?_) (fun T' es' zs' h _=>.inl ⟨g,upd_same _ _ _,rfl⟩)
     rw [upd_same] at h;cases h;simp
    ·simp only [hpOf];exact hpt.2
end
end Go.Abs
namespace Go.Abs
def Cx.un (c:Cx) (r:Nat):Cx:={ c with fm:=fun n=>if r=n then none else c.fm n }
section
variable {P:Program} {G:Gl} {nt:Nat}
theorem HRel.unplaced {c:Cx} {H:Hp} {U:Nat→Prop} {fr:Fr} {w:World} (h:HRel G c H U fr w) (nm T es:Nat) (hn:¬ U nm) (hes:0<es) :
  HStep c H U (c.un nm) (upd H nm (.row T es [])) (usOf [nm] U)∧HRel G (c.un nm) (upd H nm (.row T es [])) (usOf [nm] U) fr w∧Ext c H w (c.un nm) (upd H nm (.row T es [])) w:=by
 have hne:∀ r b,H r=some b→nm≠r:=fun r b hr e=>hn (e▸h.lt _ _ hr)
 have hfm:∀ r,nm≠r→(c.un nm).fm r=c.fm r:=fun r e=>by simp [Cx.un,e]
 have hs:HStep c H U (c.un nm) (upd H nm (.row T es [])) (usOf [nm] U):=by
  refine ⟨fun r h=>.inl h,rfl,fun _ h=>h,fun r T cs hr=>⟨hfm r (hne r _ hr),cs,(upd_other _ _ _ _ (hne r _ hr)).trans hr⟩,fun r T' es' xs hu hr=>?_,fun r es hr=>⟨hfm r (hne r _ hr),es,(upd_other _ _ _ _ (hne r _ hr)).trans hr⟩,
   fun r hr=>⟨hfm r (hne r _ hr),(upd_other _ _ _ _ (hne r _ hr)).trans hr⟩,fun r T' cs hu hr=>by
    have e:nm≠r:=fun e=>hn (e▸hu)
    rw [upd_other _ _ _ _ e] at hr
    exact ⟨cs,hr,hfm r e⟩⟩
  have e:nm≠r:=fun e=>hn (e▸hu)
  rw [upd_other _ _ _ _ e] at hr
  exact ⟨xs,hr,Nat.le_refl _,fun _=>hfm r e⟩
 refine ⟨hs,⟨?_,?_,?_,?_,?_,h.AO,h.Alt,h.Olt,h.fr,h.gl⟩,⟨rfl,rfl,rfl,Nat.le_refl _,rfl,fun _ _ _ _=>rfl,?_,fun _ h=>h,fun _ h=>.inl h,fun _ h=>.inr (.inl h)⟩⟩
 ·intro r b hr
  by_cases e:nm=r
  ·exact .inr (by simp [e])
  ·rw [upd_other _ _ _ _ e] at hr;exact .inl (h.lt _ _ hr)
 ·intro r b hr
  by_cases e:nm=r
  ·subst e;rw [upd_same] at hr;cases hr
   exact .inr ⟨by simp [Cx.un],.row T es hes⟩
  ·rw [upd_other _ _ _ _ e] at hr
   rcases h.pl r b hr with ⟨g,m,hf,hB⟩ | ⟨hf,hx⟩
   ·exact .inl ⟨g,m,(hfm r e).trans hf,hB.mono rfl (fun _ _=>rfl) hs⟩
   ·exact .inr ⟨(hfm r e).trans hf,hx⟩
 ·intro r r' b b' g m m' hr hr' hf hf'
  by_cases e:nm=r
  ·subst e;simp [Cx.un] at hf
  ·by_cases e':nm=r'
   ·subst e';simp [Cx.un] at hf'
   ·rw [upd_other _ _ _ _ e] at hr
    rw [upd_other _ _ _ _ e'] at hr'
    rw [hfm r e] at hf
    rw [hfm r' e'] at hf'
    exact h.inj r r' b b' g m m' hr hr' hf hf'
 ·intro r b g m hr hf
  by_cases e:nm=r
  ·subst e;simp [Cx.un] at hf
  ·rw [upd_other _ _ _ _ e] at hr;rw [hfm r e] at hf;exact h.nA r b g m hr hf
 ·intro r b g m hr hf
  by_cases e:nm=r
  ·subst e;simp [Cx.un] at hf
  ·rw [upd_other _ _ _ _ e] at hr;rw [hfm r e] at hf;exact h.nO r b g m hr hf
 ·intro r b g m hr hf
  by_cases e:nm=r
  ·subst e;simp [Cx.un] at hf
  ·rw [upd_other _ _ _ _ e] at hr;rw [hfm r e] at hf;exact .inr (.inr ⟨r,b,m,hr,hf⟩)
theorem s_iaD {es:Nat} {x i:Opd} {k:IntKind} {iz:Int} {xs:List (List D)} {row:List D} {fr:Fr} (h0:0≤iz) (hi:xs[iz.toNat]?=some row):LStp P G nt (.iaS es x i) [(x,.d (.sl es xs)),(i,.d (.int k iz))] [] (.fp row 0) ⟨[],[]⟩ fr fr:=by
 refine .pure fun U E H o c ac w ht hR hE hH=>?_
 generalize hop:o.op=op at ht
 cases ht with
 | @iaS t e j xo io _ _ ht hj h1 h2=>
  have e1:=ev_ok hR h1 hE.1
  have e2:=(ev_ok hR h2 hE.2.1).int_inv
  generalize hav:ac.eval xo=av at e1
  cases e1 with
  | d _ _ hd=>
   cases hd with
   | sl _ _ a cp cv hc hb hA hes hcell hrel=>
    have hlt:=(List.getElem?_eq_some_iff.1 hi).1
    obtain ⟨g,ob,e,hg⟩:=hA (by omega)
    subst e
    refine ⟨by simp,.pointer (some ⟨g,ob+iz.toNat*j.size,none⟩),?_,?_⟩
    ·have hlt:iz<(xs.length:Int):=by omega
     simp [execOp,hop,hav,e2,Instr.indexAt,asIntOf,run_underlying ht,h0,hlt,run_sizeOf hj,add_none]
    ·have:=VRel.fp (c:=c) (H:=H) (U:=U) (w:=w) row 0 g (ob+iz.toNat*j.size) hg (fun j' x hx=>?_)
     ·simpa using this
     ·have hj':j'<j.size:=by have:=hes _ row hi;have:=(List.getElem?_eq_some_iff.1 hx).1;omega
      exact ⟨_,hcell g ob rfl _ j' hlt hj',hrel _ _ row x hi hx⟩
theorem s_iaV {n es:Nat} {x i:Opd} {r off:Nat} {k:IntKind} {iz:Int} {T:Nat} {cs:List V} {fr:Fr} (h0:0≤iz) (hi:iz.toNat<n):LStp P G nt (.iaA n es x i) [(x,.ptr r off),(i,.d (.int k iz))] [(r,.var T cs)] (.ptr r (off+iz.toNat*es)) ⟨[],[]⟩ fr fr:=by
 refine .pure fun U E H o c ac w ht hR hE hH=>?_
 generalize hop:o.op=op at ht
 cases ht with
 | @iaA t e n0 j xo io _ _ ht hj h1 h2=>
  obtain ⟨g,m,hfm,ha⟩:=(ev_ok hR h1 hE.1).ptr_inv hH.1
  have e2:=(ev_ok hR h2 hE.2.1).int_inv
  refine ⟨by simp,.pointer (some ⟨g,off+iz.toNat*j.size,none⟩),?_,.ptr r _ T g m cs hH.1 hfm⟩
  have hlt:iz<(n:Int):=by omega
  simp [execOp,hop,ha,e2,Instr.indexAt,asIntOf,Instr.sureAddr,run_underlying ht,h0,hlt,run_sizeOf hj,add_none]
theorem s_iaF {n es:Nat} {x i:Opd} {row:List D} {off:Nat} {k:IntKind} {iz:Int} {fr:Fr} (h0:0≤iz) (hi:iz.toNat<n):LStp P G nt (.iaA n es x i) [(x,.fp row off),(i,.d (.int k iz))] [] (.fp row (off+iz.toNat*es)) ⟨[],[]⟩ fr fr:=by
 refine .pure fun U E H o c ac w ht hR hE hH=>?_
 generalize hop:o.op=op at ht
 cases ht with
 | @iaA t e n0 j xo io _ _ ht hj h1 h2=>
  have e1:=ev_ok hR h1 hE.1
  have e2:=(ev_ok hR h2 hE.2.1).int_inv
  generalize ha:ac.eval xo=av at e1
  cases e1 with
  | fp _ _ b ob hA h=>
   refine ⟨by simp,.pointer (some ⟨b,ob+(off+iz.toNat*j.size),none⟩),?_,.fp row _ b ob hA h⟩
   have hlt:iz<(n:Int):=by omega
   simp [execOp,hop,ha,e2,Instr.indexAt,asIntOf,Instr.sureAddr,run_underlying ht,h0,hlt,run_sizeOf hj,add_none,Nat.add_assoc]
theorem unV_map:∀ xs:List D,unV (xs.map .d)=some xs
 | []=>rfl
 | x::xs=>by simp [unV,unV_map xs]
end
end Go.Abs
namespace Go.Abs
section
variable {P:Program} {G:Gl} {nt:Nat}
theorem sub_data {A:Nat→Prop} {w:World} {es:Nat} {xs:List (List D)} {a:Option Addr} {n c l h m:Nat} (hd:DRel A w (.sl es xs) (.slice a n c)) (h1:l≤h) (h2:h≤m) (h3:m≤c) (h4:h≤xs.length) :
  DRel A w (.sl es ((xs.drop l).take (h - l))) (.slice (if m=l then a else a.map (·.add (l*es))) (h - l) (m - l)):=by
 cases hd with
 | sl _ _ _ _ cv hc hb hA hes hcell hrel=>
  have hlen:((xs.drop l).take (h - l)).length=h - l:=by simp;omega
  have hget:∀ (i:Nat) row,((xs.drop l).take (h - l))[i]?=some row→i<h - l∧xs[l+i]?=some row:=fun i row hr=>by
   rw [List.getElem?_take] at hr
   split at hr
   ·rename_i hi;rw [List.getElem?_drop] at hr;exact ⟨hi,hr⟩
   ·cases hr
  have key:DRel A w (.sl es ((xs.drop l).take (h - l))) (.slice (if m=l then a else a.map (·.add (l*es))) ((xs.drop l).take (h - l)).length (m - l)):=by
   refine .sl es _ _ _ (fun i j=>cv (l+i) j) (by omega) (by omega) (fun hp=>?_) (fun i row hr=>hes _ row (hget i row hr).2) (fun g o e i j hi hj=>?_) (fun i j row x hr hx=>hrel _ j row x (hget i row hr).2 hx)
   ·obtain ⟨g,o,e,hg⟩:=hA (by omega)
    refine ⟨g,o+l*es,?_,hg⟩
    rw [if_neg (by omega),e];simp [add_none]
   ·obtain ⟨g',o',e',hg⟩:=hA (by omega)
    rw [if_neg (by omega),e'] at e
    simp only [Option.map_some,add_none,Option.some.injEq,Addr.mk.injEq] at e
    obtain ⟨rfl,rfl,_⟩:=e
    have:=hcell g' o' e' (l+i) j (by omega) hj
    have e:o'+l*es+i*es+j=o'+(l+i)*es+j:=by rw [Nat.add_mul];omega
    rw [e];exact this
  rwa [hlen] at key
theorem run_bound {k:IntKind} {i:Int} {y:Nat} (h0:0≤i) (h1:i≤y) (code:BoundsCode) (w:World):(Instr.sliceBound (.int k i) y code).run P w=.ok i.toNat w:=by
 simp [Instr.sliceBound,asIntOf,h0,h1]
inductive DSl (es:Nat) (xs:List (List D)):V→Prop where
 | d:DSl es xs (.d (.sl es xs))
 | f:DSl es xs (.fsl es xs)
theorem DSl.rel {es:Nat} {xs:List (List D)} {v:V} (h:DSl es xs v) {c:Cx} {H:Hp} {U:Nat→Prop} {w:World} {cv:Value} (hv:VRel c H U w v cv):∃ a cp,cv=.slice a xs.length cp∧xs.length≤cp∧DRel c.A w (.sl es xs) (.slice a xs.length cp):=by
 cases h with
 | d=>
  cases hv with
  | d _ _ hd=>
   have hd':=hd
   cases hd with
   | sl _ _ a cp cv hc=>exact ⟨a,cp,rfl,hc,hd'⟩
 | f=>
  cases hv with
  | fsl _ _ a h=>exact ⟨a,_,rfl,Nat.le_refl _,h⟩
theorem s_appF {T es bytes:Nat} {s x:Opd} {nm:Nat} {xs ys:List (List D)} {xv:V} {rs:List (Nat×Blk)} {fr:Fr} (hs:Src rs es xv ys) (hy:ys≠[]) (hb:(xs.length+ys.length)*bytes≤140737488355328) :
  LStp P G nt (.app T es bytes s x) [(s,.fsl es xs),(x,xv)] rs (.own nm (xs.length+ys.length)) ⟨[(nm,.row T es (xs++ys))],[nm]⟩ fr fr:=by
 intro U E H o F c a w next Q ht hF hR hE hH hnw k
 generalize hop:o.op=op at ht
 cases ht with
 | @app t e j z zs so xo _ _ ht hj hz hzs hzl hj0 hb0 h1 h2=>
  have e1:=ev_ok hR h1 hE.1
  have e2:=ev_ok hR h2 hE.2.1
  generalize hav:a.eval so=av at e1
  generalize hbv:a.eval xo=bv at e2
  obtain ⟨ba,cap,rfl,huy,hcy⟩:=src_ok hR.h hH hs e2
  have hrow:o.op=.call { callee:=.builtin .append,args:=#[so,xo],argTypes:=#[t,t] }:=hop
  have hexec:∀ v' w',(Builtin.append_ #[t,t] o.type #[av,.slice ba ys.length cap]).run P w=.ok v' w'→(execOp a.eval o).run P w=.ok (.value v') w':=fun v' w' hh=>by
   simp only [execOp,hrow,resolve,invoke,builtin,Sem.run_bind,Sem.run_pure,Result.andThen_ok,List.map_toArray,List.map_cons,List.map_nil,hav,hbv,hh]
  have hm':0<ys.length:=List.length_pos_iff.2 hy
  obtain ⟨g2,o2,rfl,cv,hc,hd⟩:=hcy hm'
  obtain ⟨f1,f2,f3⟩:=flat_ok hj0 huy hc hd
  have hnm:¬ U nm:=hnw nm (by simp)
  have hle:xs.length+ys.length≤maxLen:=by
   have h2:(xs.length+ys.length)*1≤(xs.length+ys.length)*j.bytes:=Nat.mul_le_mul_left _ (by omega)
   rw [Nat.mul_one] at h2
   simp only [maxLen];omega
  have hzsz:z.cells.size=j.size:=by have:=(trDs_ok hzs).1;simp at this;omega
  cases e1 with
  | fsl _ _ ad hdx=>
   cases hdx with
   | sl _ _ _ _ cx hcx hbx hAx hesx hcellx hrelx=>
    -- what it leaves
    have hrun:∃ (cp:Nat) (cur:Array Value),(Builtin.append_ #[t,t] o.type #[.slice ad xs.length xs.length,.slice (some ⟨g2,o2,none⟩) ys.length cap]).run P w=.ok (.slice (some ⟨w.heap.size,0,none⟩) (xs.length+ys.length) cp) (w.drew.alloc (.cells cur T)) ∧
      xs.length+ys.length≤cp∧cp≤maxLen∧cur.size=cp*j.size∧cur.toList.take ((xs.length+ys.length)*j.size)=flatC cx xs.length j.size++flatC cv ys.length j.size:=by
     have hfit:=growslice_fits (old:=xs.length) (need:=xs.length+ys.length) (by omega) hb
     have hge:=grownCap_ge w (xs.length+ys.length) xs.length T
     have hcm:=grownCap_le_maxLen w (xs.length+ys.length) xs.length T hle
     have h63:((xs.length+ys.length:Nat):Int)≤9223372036854775807:=by simp only [maxLen] at hle;omega
     have hsplit:(xs.length+ys.length)*j.size=xs.length*j.size+ys.length*j.size:=Nat.add_mul _ _ _
     have hl1:(flatC cx xs.length j.size).length=xs.length*j.size:=by simp [flatC]
     have htk:∀ zz:Array Value,((flatC cx xs.length j.size).toArray++(flatC cv ys.length j.size).toArray++zz).toList.take ((xs.length+ys.length)*j.size)=flatC cx xs.length j.size++flatC cv ys.length j.size:=fun zz=>by
      simp only [Array.toList_append]
      rw [List.take_left']
      simp only [List.length_append,hl1,f1];omega
     have hsz:∀ k,((flatC cx xs.length j.size).toArray++(flatC cv ys.length j.size).toArray++Builtin.zeroCells z.cells (k - (xs.length+ys.length))).size=xs.length*j.size+ys.length*j.size+(k - (xs.length+ys.length))*j.size:=fun k=>by
      simp only [Array.size_append,List.size_toArray,hl1,f1,size_zeroCells,hzsz]
     refine ⟨grownCap w (xs.length+ys.length) xs.length T,(flatC cx xs.length j.size).toArray++(flatC cv ys.length j.size).toArray++Builtin.zeroCells z.cells (grownCap w (xs.length+ys.length) xs.length T - (xs.length+ys.length)),?_,hge,hcm,?_,htk _⟩
     ·cases ad with
      | none=>
       have hx0:xs=[]:=by
        cases xs with
        | nil=>rfl
        | cons x xs=>obtain ⟨g,o,e,_⟩:=hAx (by simp);cases e
       subst hx0
       have:=run_append_nil (P:=P) w t o.type T j z ht hj hz ⟨g2,o2,none⟩ ys.length cap _ f1 f2 hm' (by simpa using h63) (by simp only [List.length_nil,Nat.zero_add] at hb;omega)
       simpa [flatC] using this
      | some ad=>
       have hold:∀ (i:Nat) v,(flatC cx xs.length j.size)[i]?=some v→w.cell? (ad.add i)=some v:=by
        by_cases hx0:xs=[]
        ·subst hx0;intro i v hi;simp [flatC] at hi
        ·obtain ⟨g,ob,e,_⟩:=hAx (List.length_pos_iff.2 hx0)
         cases e
         exact (flat_ok (A:=c.A) hj0 hesx (fun i j' hi hj'=>hcellx g ob rfl i j' hi hj') hrelx).2.1
       have:=run_append_grow (P:=P) w t o.type T j z ht hj hz ad xs.length xs.length _ hl1 hold ⟨g2,o2,none⟩ ys.length cap _ f1 f2 (by omega) h63 hfit
       exact this
     ·rw [hsz,← Nat.add_mul,← Nat.add_mul];congr 1;omega
    obtain ⟨cp,cur,hrun,hle1,hle2,hsz,htake⟩:=hrun
    have hst:HStep c H U (c.put nm w.heap.size cp) (upd H nm (.row T j.size (xs++ys))) (usOf [nm] U):=by
     have:=HStep.new hR.h nm w.heap.size cp (.row T j.size (xs++ys)) hnm
     have e:(fun r=>U r∨r=nm)=usOf [nm] U:=by funext r;simp [usOf]
     rwa [e] at this
    have hblk:∀ g0,g0<w.heap.size→(w.drew.alloc (.cells cur T)).heap[g0]?=w.heap[g0]?:=fun g0 h0=>heap_alloc_old w.drew _ g0 h0
    have hB:BRel (c.put nm w.heap.size cp) (upd H nm (.row T j.size (xs++ys))) (usOf [nm] U) (w.drew.alloc (.cells cur T)) w.heap.size cp (.row T j.size (xs++ys)):=by
     refine row_app (c':=c.put nm w.heap.size cp) (xs:=xs) (ys:=ys) (A:=c.A) (w:=w) (n:=xs.length) (m:=ys.length) (cv:=cv) (heap_alloc_at w.drew _) hj0 rfl rfl hle1 hle2 hsz htake (by simp [flatC]) hesx huy (fun i j' row x hr hx=>?_) hd (fun _ h=>h) (fun g0 h0=>hblk g0 (hR.h.Alt g0 h0))
      (H':=upd H nm (.row T j.size (xs++ys))) (U':=usOf [nm] U)
     have hi:=(List.getElem?_eq_some_iff.1 hr).1
     have hj':j'<j.size:=by have:=hesx i row hr;have:=(List.getElem?_eq_some_iff.1 hx).1;omega
     have h3:(i+1)*j.size≤xs.length*j.size:=Nat.mul_le_mul_right _ hi
     rw [Nat.add_mul] at h3
     refine ⟨cx i j',?_,hrelx i j' row x hr hx⟩
     rw [flatC,List.getElem?_map,List.getElem?_range (by omega)]
     have e:i*j.size+j'=j'+i*j.size:=by omega
     rw [e]
     simp only [Option.map_some,Option.some.injEq]
     rw [Nat.add_mul_div_right _ _ hj0,Nat.add_mul_mod_self_right,Nat.div_eq_of_lt hj',Nat.mod_eq_of_lt hj',Nat.zero_add]
    have hpt:=hR.h.put (w':=w.drew.alloc (.cells cur T)) nm w.heap.size cp (.row T j.size (xs++ys)) hst rfl rfl rfl (by simp) (fun g0 hg0 _=>hblk g0 hg0) (.inl (Nat.le_refl _)) (.inr (by simp)) hB
    refine wp_value hF (by simp [hop]) (hexec _ _ hrun) (k (c.put nm w.heap.size cp) _ _ hst (hR.step hst hpt.1 hpt.2) ?_ hpt.2)
    refine .own nm _ _ cp (.inr (by simp)) (by omega) (fun T' es' zs' h=>?_) (fun T' es' zs' h _=>.inl ⟨_,upd_same _ _ _,rfl⟩)
    have h':upd H nm (.row T j.size (xs++ys)) nm=some (.row T' es' zs'):=h
    rw [upd_same] at h';cases h';simp
def flatFs (P:Program) (rec:TypeId→Option (List Nat)):List Field→Nat→Option (List Nat)
 | [],_=>some []
 | f::fs,o=>match rec f.type,P.info? f.type,flatFs P rec fs (o+(match P.info? f.type with | some i=>i.size | none=>0)) with
  | some l, some i, some ls => bif Nat.beq i.size l.length && Nat.beq f.offset o && !(f.name == "_") then some (l ++ ls) else none
  | _,_,_=>none
def flatT (P:Program):Nat→TypeId→Option (List Nat)
 | 0,_=>none
 | d+1,t=>
  match P.underlying t with
  | some (.int _)=>some [0]
  | some .bool=>some [1]
  | some .string=>some [2]
  | some (.struct fs)=>bif P.stoodInHeld t then none else flatFs P (flatT P d) fs.toList 0
  | some (.array n e)=>match P.info? e,flatT P d e with
   | some i,some l=>bif Nat.beq i.size l.length then some (List.replicate n l).flatten else none
   | _,_=>none
  | _=>none
def eqD:Nat→D→D→Option Bool
 | 0,.int k a,.int k' b=>if k=k' then some (a==b) else none
 | 1,.bool a,.bool b=>some (a==b)
 | 2,.str a,.str b=>some (a.toList==b.toList)
 | _,_,_=>none
def eqDs:List Nat→List D→List D→Option Bool
 | [],_,_=>some true
 | k::ks,x::xs,y::ys=>match eqD k x y,eqDs ks xs ys with | some a,some b=>some (a&&b) | _,_=>none
 | _,_,_=>none
theorem eqDs_app:∀ {ks ls:List Nat} {xs ys:List D} {r:Bool},eqDs (ks++ls) xs ys=some r→∃ a b,eqDs ks xs ys=some a∧eqDs ls (xs.drop ks.length) (ys.drop ks.length)=some b∧r=(a&&b)
 | [],ls,xs,ys,r,h=>⟨true,r,rfl,by simpa using h,by simp⟩
 | k::ks,ls,[],ys,r,h=>by simp [eqDs] at h
 | k::ks,ls,x::xs,[],r,h=>by simp [eqDs] at h
 | k::ks,ls,x::xs,y::ys,r,h=>by
  simp only [List.cons_append,eqDs] at h
  split at h
  ·rename_i a b h1 h2
   cases h
   obtain ⟨a',b',h3,h4,rfl⟩:=eqDs_app h2
   exact ⟨a&&a',b',by simp [eqDs,h1,h3],by simpa using h4,by rw [Bool.and_assoc]⟩
  ·cases h
def CellsD (A:Nat→Prop) (w:World) (xs:List D) (cs:List Value) (n:Nat):Prop:=n≤xs.length∧n≤cs.length∧∀ (i:Nat) x v,i<n→xs[i]?=some x→cs[i]?=some v→DRel A w x v
def ValOf (P:Program) (t:TypeId) (cs:List Value) (v:Value):Prop:=∃ u,P.underlying t=some u∧((aggD u=true∧v=.agg cs.toArray)∨(aggD u=false∧cs=[v]))
theorem run_part_flat {t:TypeId} {u:TypeDesc} {i:TypeInfo} (hu:P.underlying t=some u) (hi:P.info? t=some i) (h1:aggD u=false→i.size=1) (cs:List Value) (off:Nat) (hle:off+i.size≤cs.length) (w:World) :
  ∃ v,(part t cs.toArray off).run P w=.ok v w∧ValOf P t ((cs.drop off).take i.size) v:=by
 cases ha:aggD u with
 | true=>
  refine ⟨.agg ((cs.drop off).take i.size).toArray,?_,u,hu,.inl ⟨ha,rfl⟩⟩
  simp only [part,Sem.run_bind,run_isAgg hu,ha,Result.andThen_ok,if_true,run_sizeOf hi,Sem.run_pure]
  congr 2
  apply Array.ext'
  simp [List.take_drop]
 | false=>
  have hs:=h1 ha
  have hlt:off<cs.length:=by omega
  refine ⟨cs[off],?_,u,hu,.inr ⟨ha,?_⟩⟩
  ·simp [part,run_isAgg hu,ha,hlt]
  ·rw [hs]
   apply List.ext_getElem?
   intro j
   rw [List.getElem?_take]
   cases j with
   | zero=>simp [List.getElem?_eq_getElem hlt]
   | succ j=>simp
def EqFlat (P:Program) (t:TypeId) (ks:List Nat) (dd:Nat):Prop:=
 ∀ (A:Nat→Prop) (w:World) (xs ys:List D) (cx cy:List Value) (vx vy:Value) (r:Bool),cx.length=ks.length→cy.length=ks.length→CellsD A w xs cx ks.length→CellsD A w ys cy ks.length→ValOf P t cx vx→ValOf P t cy vy→eqDs ks xs ys=some r →
  (Op.equalIn dd t vx vy).run P w=.ok r w
theorem CellsD.part {A:Nat→Prop} {w:World} {xs:List D} {cs:List Value} {n:Nat} (h:CellsD A w xs cs n) (o m:Nat) (hle:o+m≤n):CellsD A w (xs.drop o) ((cs.drop o).take m) m:=by
 obtain ⟨h1,h2,h3⟩:=h
 refine ⟨by simp;omega,by simp;omega,fun i x v hi hx hv=>?_⟩
 rw [List.getElem?_drop] at hx
 rw [List.getElem?_take,if_pos hi,List.getElem?_drop] at hv
 exact h3 (o+i) x v (by omega) hx hv
theorem flat_one {d:Nat} {t:TypeId} {u:TypeDesc} {l:List Nat} (hu:P.underlying t=some u) (h:flatT P d t=some l):aggD u=false→l.length=1:=by
 intro ha
 cases d with
 | zero=>simp [flatT] at h
 | succ d=>
  simp only [flatT,hu] at h
  cases u<;>simp at h<;>try (simp [aggD] at ha;done)
  all_goals (subst h;rfl)
theorem eqFields_flat {d dd:Nat} (IH:∀ t ks,flatT P d t=some ks→EqFlat P t ks dd) {A:Nat→Prop} {w:World} {cx cy:List Value} {xs ys:List D} {n:Nat} (hx:CellsD A w xs cx n) (hy:CellsD A w ys cy n) :
  ∀ (fs:List Field) (o:Nat) (ks:List Nat) (r:Bool),flatFs P (flatT P d) fs o=some ks→o+ks.length≤n→eqDs ks (xs.drop o) (ys.drop o)=some r→(Op.eqFields dd cx.toArray cy.toArray fs).run P w=.ok r w
 | [],o,ks,r,h,hle,he=>by
  simp only [flatFs] at h;cases h
  simp only [eqDs] at he;cases he
  simp [Op.eqFields]
 | f::fs,o,ks,r,h,hle,he=>by
  simp only [flatFs] at h
  split at h
  ·rename_i l i ls h1 h2 h3
   cases hb : (Nat.beq i.size l.length && Nat.beq f.offset o && !(f.name == "_")) with
   | false=>rw [hb] at h;cases h
   | true=>
    rw [hb] at h;cases h
    simp only [Bool.and_eq_true,Bool.not_eq_true',beq_eq_false_iff_ne] at hb
    obtain ⟨⟨hb1,hb2⟩,hb3⟩:=hb
    have e1:=Nat.eq_of_beq_eq_true hb1
    have e2:=Nat.eq_of_beq_eq_true hb2
    simp only [h2] at h3
    obtain ⟨a,b,q1,q2,rfl⟩:=eqDs_app he
    simp only [List.length_append] at hle
    have hu:∃ u,P.underlying f.type=some u:=by
     cases hu:P.underlying f.type with
     | some u=>exact ⟨u,rfl⟩
     | none=>
      cases d with
      | zero=>simp [flatT] at h1
      | succ d=>simp [flatT,hu] at h1
    obtain ⟨u,hu⟩:=hu
    have hone:aggD u=false→i.size=1:=fun ha=>by rw [e1];exact flat_one hu h1 ha
    obtain ⟨va,pa,ra⟩:=run_part_flat hu h2 hone cx f.offset (by have:=hx.2.1;omega) w
    obtain ⟨vb,pb,rb⟩:=run_part_flat hu h2 hone cy f.offset (by have:=hy.2.1;omega) w
    have hq:=IH _ _ h1 A w (xs.drop o) (ys.drop o) _ _ va vb a (by simp;have:=hx.2.1;omega) (by simp;have:=hy.2.1;omega) (by rw [e2,e1];exact hx.part o l.length (by omega)) (by rw [e2,e1];exact hy.part o l.length (by omega)) ra rb q1
    have hrest:=eqFields_flat IH hx hy fs (o+i.size) ls b h3 (by omega) (by rw [e1];simpa [List.drop_drop] using q2)
    simp only [Op.eqFields,hb3,ne_eq,not_false_eq_true,if_true,Sem.run_bind,pa,pb,hq,Result.andThen_ok]
    cases a with
    | false=>simp
    | true=>simpa using hrest
  ·cases h
theorem eqItems_flat {d dd:Nat} {e:TypeId} {l:List Nat} {i:TypeInfo} (hi:P.info? e=some i) (hl:flatT P d e=some l) (hsz:i.size=l.length) (IH:EqFlat P e l dd) {A:Nat→Prop} {w:World} {cx cy:List Value} {xs ys:List D} {n:Nat} (hx:CellsD A w xs cx n) (hy:CellsD A w ys cy n) :
  ∀ (m k:Nat) (r:Bool),(k+m)*l.length≤n→eqDs (List.replicate m l).flatten (xs.drop (k*l.length)) (ys.drop (k*l.length))=some r→(Op.eqItems dd e i.size cx.toArray cy.toArray (List.range' k m)).run P w=.ok r w
 | 0,k,r,hle,he=>by
  simp [eqDs] at he;subst he
  simp [Op.eqItems]
 | m+1,k,r,hle,he=>by
  rw [List.replicate_succ,List.flatten_cons] at he
  obtain ⟨a,b,q1,q2,rfl⟩:=eqDs_app he
  have hle1:(k+1)*l.length≤n:=Nat.le_trans (Nat.mul_le_mul_right _ (by omega)) hle
  rw [Nat.add_mul] at hle1
  have hu:∃ u,P.underlying e=some u:=by
   cases hu:P.underlying e with
   | some u=>exact ⟨u,rfl⟩
   | none=>
    cases d with
    | zero=>simp [flatT] at hl
    | succ d=>simp [flatT,hu] at hl
  obtain ⟨u,hu⟩:=hu
  have hone:aggD u=false→i.size=1:=fun ha=>by rw [hsz];exact flat_one hu hl ha
  obtain ⟨va,pa,ra⟩:=run_part_flat hu hi hone cx (k*i.size) (by have:=hx.2.1;rw [hsz];omega) w
  obtain ⟨vb,pb,rb⟩:=run_part_flat hu hi hone cy (k*i.size) (by have:=hy.2.1;rw [hsz];omega) w
  rw [hsz] at ra rb
  have hq:=IH A w (xs.drop (k*l.length)) (ys.drop (k*l.length)) _ _ va vb a (by simp;have:=hx.2.1;omega) (by simp;have:=hy.2.1;omega) (hx.part _ _ (by omega)) (hy.part _ _ (by omega)) ra rb q1
  have hrest:=eqItems_flat hi hl hsz IH hx hy m (k+1) b (by rw [show k+1+m=k+(m+1) by omega];exact hle) (by rw [Nat.add_mul,Nat.one_mul];simpa [List.drop_drop] using q2)
  rw [List.range'_succ]
  simp only [Op.eqItems,Sem.run_bind,pa,pb,hq,Result.andThen_ok]
  cases a with
  | false=>simp
  | true=>simpa using hrest
theorem flat_rep_len (l:List Nat):∀ n,((List.replicate n l).flatten).length=n*l.length
 | 0=>by simp
 | n+1=>by rw [List.replicate_succ,List.flatten_cons,List.length_append,flat_rep_len l n,Nat.add_mul];omega
theorem eq_flat:∀ (d:Nat) (t:TypeId) (ks:List Nat) (dd:Nat),d≤dd→flatT P d t=some ks→EqFlat P t ks dd
 | 0,t,ks,dd,_,h=>by simp [flatT] at h
 | d+1,t,ks,dd,hd,h=>by
  intro A w xs ys cx cy vx vy r l1 l2 hx hy h1 h2 he
  obtain ⟨dd,rfl⟩:∃ m,dd=m+1:=⟨dd - 1,by omega⟩
  simp only [flatT] at h
  have IH:∀ t ks,flatT P d t=some ks→EqFlat P t ks dd:=fun t ks h=>eq_flat d t ks dd (by omega) h
  have leaf:∀ (k:Nat),ks=[k]→∃ x y vx' vy',eqD k x y=some r∧cx=[vx']∧cy=[vy']∧DRel A w x vx'∧DRel A w y vy':=fun k hk=>by
   subst hk
   match xs,ys,cx,cy,l1,l2,hx,hy,he with
   | x::xs,y::ys,[vx'],[vy'],_,_,hx,hy,he=>
    refine ⟨x,y,vx',vy',?_,rfl,rfl,hx.2.2 0 x vx' (by simp) rfl rfl,hy.2.2 0 y vy' (by simp) rfl rfl⟩
    simp only [eqDs] at he
    split at he
    ·rename_i a b h1 h2;cases he;cases h2;simpa using h1
    ·cases he
   | [],_,_,_,_,_,hx,_,_=>exact absurd hx.1 (by simp)
   | _::_,[],_,_,_,_,_,hy,_=>exact absurd hy.1 (by simp)
  obtain ⟨u,hu,ha⟩:=h1
  obtain ⟨u',hu',hb⟩:=h2
  rw [hu] at hu';cases hu'
  rw [hu] at h
  cases u with
  | int k=>
   simp at h
   obtain ⟨x,y,vx',vy',e1,e2,e3,d1,d2⟩:=leaf 0 h.symm
   rcases ha with ⟨ha,_⟩ | ⟨_,ha⟩
   ·simp [aggD] at ha
   rcases hb with ⟨hb,_⟩ | ⟨_,hb⟩
   ·simp [aggD] at hb
   rw [e2] at ha;cases ha
   rw [e3] at hb;cases hb
   cases x<;>cases y<;>simp only [eqD] at e1<;>try (cases e1;done)
   split at e1
   ·rename_i hk;subst hk
    cases e1
    cases d1;cases d2
    rw [run_equalIn_int w dd t _ k _ _ hu]
   ·cases e1
  | bool=>
   simp at h
   obtain ⟨x,y,vx',vy',e1,e2,e3,d1,d2⟩:=leaf 1 h.symm
   rcases ha with ⟨ha,_⟩ | ⟨_,ha⟩
   ·simp [aggD] at ha
   rcases hb with ⟨hb,_⟩ | ⟨_,hb⟩
   ·simp [aggD] at hb
   rw [e2] at ha;cases ha
   rw [e3] at hb;cases hb
   cases x<;>cases y<;>simp [eqD] at e1
   cases d1;cases d2
   rw [run_equalIn_bool' w dd t _ _ hu,← e1]
  | string=>
   simp at h
   obtain ⟨x,y,vx',vy',e1,e2,e3,d1,d2⟩:=leaf 2 h.symm
   rcases ha with ⟨ha,_⟩ | ⟨_,ha⟩
   ·simp [aggD] at ha
   rcases hb with ⟨hb,_⟩ | ⟨_,hb⟩
   ·simp [aggD] at hb
   rw [e2] at ha;cases ha
   rw [e3] at hb;cases hb
   cases x<;>cases y<;>simp [eqD] at e1
   cases d1;cases d2
   rw [run_equalIn_string w dd t _ _ hu,← e1]
  | struct fs=>
   rcases ha with ⟨_,rfl⟩ | ⟨ha,_⟩
   rcases hb with ⟨_,rfl⟩ | ⟨hb,_⟩
   ·simp only at h
    cases hp:P.stoodInHeld t with
    | true=>rw [hp] at h;cases h
    | false=>
     rw [hp] at h
     have hfo:P.fieldsOf t=fs:=by simp [Program.fieldsOf,hu]
     rw [run_equalIn_struct w dd t _ _ (by rw [hfo];exact hu) hp,hfo]
     exact eqFields_flat IH hx hy fs.toList 0 ks r h (by simp) (by simpa using he)
   ·simp [aggD] at hb
   ·simp [aggD] at ha
  | array n e=>
   rcases ha with ⟨_,rfl⟩ | ⟨ha,_⟩
   rcases hb with ⟨_,rfl⟩ | ⟨hb,_⟩
   ·simp only at h
    split at h
    ·rename_i i l h1 h2
     cases hbq:Nat.beq i.size l.length with
     | false=>rw [hbq] at h;cases h
     | true=>
      rw [hbq] at h;cases h
      have e1:=Nat.eq_of_beq_eq_true hbq
      rw [run_equalIn_array w dd _ _ hu h1]
      have hc:P.cellsOf e=i.size:=by simp [Program.cellsOf,h1]
      rw [hc,List.range_eq_range']
      exact eqItems_flat h1 h2 e1 (IH e l h2) hx hy n 0 r (by rw [flat_rep_len,Nat.zero_add];exact Nat.le_refl _) (by simpa using he)
    ·cases h
   ·simp [aggD] at hb
   ·simp [aggD] at ha
  | _=>simp at h
structure FlatT (P:Program) (t:TypeId) (ks:List Nat):Prop where
 flat:flatT P 20 t=some ks
 guard:P.eqGuardType P.depth t=false
 agg:(match P.underlying t with | some u=>aggD u | none=>false)=true
theorem s_aeq {neg:Bool} {t:Nat} {x y:Opd} {xs ys:List D} {ks:List Nat} {r:Bool} {fr:Fr} (hf:FlatT P t ks) (hx:xs.length=ks.length) (hy:ys.length=ks.length) (he:eqDs ks xs ys=some r) :
  LStp P G nt (.aeq neg t x y) [(x,.agg (xs.map .d)),(y,.agg (ys.map .d))] [] (.d (.bool (neg != r))) ⟨[],[]⟩ fr fr:=by
 refine .pure fun U E H o c ac w ht hR hE hH=>?_
 generalize hop:o.op=op' at ht
 have hu:∃ u,P.underlying t=some u∧aggD u=true:=by
  have:=hf.agg
  cases hu:P.underlying t with
  | some u=>rw [hu] at this;exact ⟨u,rfl,this⟩
  | none=>rw [hu] at this;cases this
 obtain ⟨u,hu,ha⟩:=hu
 have key:∀ xo yo:Operand,trO xo=some x→trO yo=some y→∃ cx cy:List Value,ac.eval xo=.agg cx.toArray∧ac.eval yo=.agg cy.toArray∧(Op.equalIn 10000 t (.agg cx.toArray) (.agg cy.toArray)).run P w=.ok r w:=fun xo yo h1 h2=>by
  have e1:=ev_ok hR h1 hE.1
  have e2:=ev_ok hR h2 hE.2.1
  generalize hav:ac.eval xo=av at e1
  generalize hbv:ac.eval yo=bv at e2
  cases e1 with
  | agg _ cx l1 r1 o1=>
   cases e2 with
   | agg _ cy l2 r2 o2=>
    refine ⟨cx,cy,rfl,rfl,eq_flat 20 t ks 10000 (by omega) hf.flat c.A w xs ys cx cy _ _ r (by simpa [hx] using l1) (by simpa [hy] using l2) ⟨by omega,by simp at l1;omega,fun i z v hi hz hv=>?_⟩ ⟨by omega,by simp at l2;omega,fun i z v hi hz hv=>?_⟩ ⟨u,hu,.inl ⟨ha,rfl⟩⟩ ⟨u,hu,.inl ⟨ha,rfl⟩⟩ he⟩
    ·have:=r1 i (.d z) v (by rw [List.getElem?_map,hz];rfl) hv
     cases this with | d _ _ h=>exact h
    ·have:=r2 i (.d z) v (by rw [List.getElem?_map,hz];rfl) hv
     cases this with | d _ _ h=>exact h
 have fin:∀ (xo yo:Operand) (yt:Nat),trO xo=some x→trO yo=some y→((neg=false∧o.op=.binOp .eql t xo yo yt)∨(neg=true∧o.op=.binOp .neq t xo yo yt))→(∀ c,op'≠.defer c)∧∃ cv,(execOp ac.eval o).run P w=.ok (.value cv) w∧VRel c H U w (.d (.bool (neg != r))) cv:=fun xo yo yt h1 h2 ho=>by
  obtain ⟨cx,cy,a1,a2,hrun⟩:=key xo yo h1 h2
  refine ⟨fun c hc=>(by rcases ho with ⟨_,ho⟩ | ⟨_,ho⟩<;>· rw [hop] at ho;rw [ho] at hc;cases hc),.bool (neg != r),?_,.d _ _ (.bool _)⟩
  rcases ho with ⟨rfl,ho⟩ | ⟨rfl,ho⟩
  ·have hg:=run_eqGuard_agg (P:=P) w .eql t xo yo cx.toArray cy.toArray hf.guard
   simp only [execOp,ho,a1,a2,Sem.run_bind,hg,Result.andThen_ok,run_eql_struct,hrun,Sem.run_pure]
   cases r<;>rfl
  ·have hg:=run_eqGuard_agg (P:=P) w .neq t xo yo cx.toArray cy.toArray hf.guard
   simp only [execOp,ho,a1,a2,Sem.run_bind,hg,Result.andThen_ok,run_neq_struct,hrun,Sem.run_pure]
   cases r<;>rfl
 cases ht with
 | aeq hu' h1 h2=>exact fin _ _ _ h1 h2 (.inl ⟨rfl,hop⟩)
 | ane hu' h1 h2=>exact fin _ _ _ h1 h2 (.inr ⟨rfl,hop⟩)
 | aeqA hu' h1 h2=>exact fin _ _ _ h1 h2 (.inl ⟨rfl,hop⟩)
 | aneA hu' h1 h2=>exact fin _ _ _ h1 h2 (.inr ⟨rfl,hop⟩)
theorem run_arW {op:BinOp} {k:IntKind} {p q r:Int} (hr:arR op p q=some r) (t:TypeId) (w:World):(binOp op t (.int k p) (.int k q)).run P w=.ok (.int k (k.wrap r)) w:=by
 have key : ∀ op, (op = .add ∨ op = .sub ∨ op = .mul) → binOp op t (.int k p) (.int k q) = if k ≠ k then (stuck "BinOp: operands of different kinds" : Sem Value) else Op.intArith op k p q := by
  rintro op (rfl | rfl | rfl)<;>rfl
 cases op<;>simp only [arR] at hr<;>first | (cases hr;done) | (injection hr with hr;subst hr;rw [key _ (by simp)];simp [Op.intArith])
theorem s_arW {op:BinOp} {x y:Opd} {k:IntKind} {p q r:Int} {fr:Fr} (hr:arR op p q=some r):LStp P G nt (.bin op x y) [(x,.d (.int k p)),(y,.d (.int k q))] [] (.d (.int k (k.wrap r))) ⟨[],[]⟩ fr fr:=
 s_binop (fun t w=>run_arW hr t w) (fun _ _ _ _=>.d _ _ (.int _ _))
theorem s_negW {x:Opd} {k:IntKind} {p:Int} {fr:Fr}:LStp P G nt (.un .neg x) [(x,.d (.int k p))] [] (.d (.int k (k.wrap (-p)))) ⟨[],[]⟩ fr fr:=by
 refine .pure fun U E H o c ac w ht hR hE hH=>?_
 generalize hop:o.op=op' at ht
 cases ht with
 | un h1=>
  have e1:=(ev_ok hR h1 hE.1).int_inv
  refine ⟨by simp,.int k (k.wrap (-p)),?_,.d _ _ (.int _ _)⟩
  simp [execOp,hop,e1,Op.unary,Op.intArith]
end
end Go.Abs
namespace Go.Abs
section
variable {P:Program} {G:Gl} {nt:Nat}
def shR:BinOp→IntKind→Int→Int→Option Int
 | .shl,k,x,y=>if y<0 then none else some (k.wrap (x*2 ^ (min y.toNat k.bits)))
 | .shr,k,x,y=>if y<0 then none else some (x.fdiv (2 ^ (min y.toNat k.bits)))
 | _,_,_,_=>none
theorem run_shift {op:BinOp} {k ky:IntKind} {x y r:Int} (h:shR op k x y=some r) (t:TypeId) (w:World):(binOp op t (.int k x) (.int ky y)).run P w=.ok (.int k r) w:=by
 have key:∀ op,(op=.shl∨op=.shr)→binOp op t (.int k x) (.int ky y)=Op.shift op k x ky y:=by
  rintro op (rfl | rfl)<;>rfl
 cases op<;>simp only [shR] at h<;>try (cases h;done)
 ·split at h
  ·cases h
  ·rename_i hy;cases h;rw [key _ (by simp)];simp [Op.shift,hy]
 ·split at h
  ·cases h
  ·rename_i hy;cases h;rw [key _ (by simp)];simp [Op.shift,hy]
theorem s_sh {op:BinOp} {x y:Opd} {k ky:IntKind} {p q r:Int} {fr:Fr} (h:shR op k p q=some r):LStp P G nt (.bin op x y) [(x,.d (.int k p)),(y,.d (.int ky q))] [] (.d (.int k r)) ⟨[],[]⟩ fr fr:=by
 refine .pure fun U E H o c ac w ht hR hE hH=>?_
 generalize hop:o.op=op' at ht
 cases ht with
 | bin ht h1 h2=>
  have e1:=(ev_ok hR h1 hE.1).int_inv
  have e2:=(ev_ok hR h2 hE.2.1).int_inv
  refine ⟨by simp,.int k r,?_,.d _ _ (.int _ _)⟩
  have hg:∀ t xo yo,(eqGuard op t xo yo (.int k p) (.int ky q)).run P w=.ok () w:=fun t xo yo=>by
   unfold eqGuard
   cases op<;>rfl
  simp only [execOp,hop,e1,e2,Sem.run_bind,hg,Result.andThen_ok,run_shift h,Sem.run_pure]
def biR (op:BinOp) (k:IntKind) (x y:Int):Option Int:=
 match op with
 | .and=>some (k.wrap (BitVec.ofInt k.bits x &&& BitVec.ofInt k.bits y).toNat)
 | .or=>some (k.wrap (BitVec.ofInt k.bits x ||| BitVec.ofInt k.bits y).toNat)
 | .xor=>some (k.wrap (BitVec.ofInt k.bits x ^^^ BitVec.ofInt k.bits y).toNat)
 | _=>none
theorem run_bits {op:BinOp} {k:IntKind} {x y r:Int} (h:biR op k x y=some r) (t:TypeId) (w:World):(binOp op t (.int k x) (.int k y)).run P w=.ok (.int k r) w:=by
 have key : ∀ op, (op = .and ∨ op = .or ∨ op = .xor) → binOp op t (.int k x) (.int k y) = if k ≠ k then (stuck "BinOp: operands of different kinds" : Sem Value) else Op.intBits op k x y := by
  rintro op (rfl | rfl | rfl)<;>rfl
 cases op<;>simp only [biR] at h<;>first | (cases h;done) | (cases h;rw [key _ (by simp)];simp [Op.intBits])
theorem s_bits {op:BinOp} {x y:Opd} {k:IntKind} {p q r:Int} {fr:Fr} (h:biR op k p q=some r):LStp P G nt (.bin op x y) [(x,.d (.int k p)),(y,.d (.int k q))] [] (.d (.int k r)) ⟨[],[]⟩ fr fr:=
 s_binop (fun t w=>run_bits h t w) (fun _ _ _ _=>.d _ _ (.int _ _))
theorem check_fields {d dd:Nat} {em:Bool} (IH:∀ t ks,flatT P d t=some ks→∀ (cs:List Value) v (w:World),cs.length=ks.length→ValOf P t cs v→(Instr.checkKey em dd t v).run P w=.ok () w) {cs:List Value} {w:World} :
  ∀ (fs:List Field) (o:Nat) (ks:List Nat),flatFs P (flatT P d) fs o=some ks→o+ks.length≤cs.length →
   (forIn fs PUnit.unit (fun f r => do if f.name ≠ "_" then do (Instr.checkKey em dd f.type (← part f.type cs.toArray f.offset)); pure (ForInStep.yield PUnit.unit) else do pure (ForInStep.yield PUnit.unit)) : Sem PUnit).run P w = .ok () w
 | [],o,ks,h,hle=>by simp
 | f::fs,o,ks,h,hle=>by
  simp only [flatFs] at h
  split at h
  ·rename_i l i ls h1 h2 h3
   cases hb : (Nat.beq i.size l.length && Nat.beq f.offset o && !(f.name == "_")) with
   | false=>rw [hb] at h;cases h
   | true=>
    rw [hb] at h;cases h
    simp only [Bool.and_eq_true,Bool.not_eq_true',beq_eq_false_iff_ne] at hb
    obtain ⟨⟨hb1,hb2⟩,hb3⟩:=hb
    have e1:=Nat.eq_of_beq_eq_true hb1
    have e2:=Nat.eq_of_beq_eq_true hb2
    simp only [h2] at h3
    simp only [List.length_append] at hle
    have hu:∃ u,P.underlying f.type=some u:=by
     cases hu:P.underlying f.type with
     | some u=>exact ⟨u,rfl⟩
     | none=>
      cases d with
      | zero=>simp [flatT] at h1
      | succ d=>simp [flatT,hu] at h1
    obtain ⟨u,hu⟩:=hu
    have hone:aggD u=false→i.size=1:=fun ha=>by rw [e1];exact flat_one hu h1 ha
    obtain ⟨va,pa,ra⟩:=run_part_flat hu h2 hone cs f.offset (by omega) w
    have hq:=IH _ _ h1 _ va w (by simp;omega) ra
    have hrest:=check_fields (cs:=cs) IH (w:=w) fs (o+i.size) ls h3 (by omega)
    simp only [List.forIn_cons,hb3,ne_eq,not_false_eq_true,if_true,Sem.run_bind,pa,hq,Result.andThen_ok,Sem.run_pure]
    simpa using hrest
  ·cases h
theorem check_items {dd:Nat} {em:Bool} {e:TypeId} {u:TypeDesc} {i:TypeInfo} (hu:P.underlying e=some u) (hi:P.info? e=some i) (hone:aggD u=false→i.size=1) (IH:∀ (cs:List Value) v (w:World),cs.length=i.size→ValOf P e cs v→(Instr.checkKey em dd e v).run P w=.ok () w) {cs:List Value} {w:World} :
  ∀ (m k:Nat),(k+m)*i.size≤cs.length→(forIn (List.range' k m) PUnit.unit (fun j r=>do (Instr.checkKey em dd e (← part e cs.toArray (j*(← sizeOf e))));pure (ForInStep.yield PUnit.unit)):Sem PUnit).run P w=.ok () w
 | 0,k,hle=>by simp
 | m+1,k,hle=>by
  have hle1:(k+1)*i.size≤cs.length:=Nat.le_trans (Nat.mul_le_mul_right _ (by omega)) hle
  rw [Nat.add_mul] at hle1
  obtain ⟨va,pa,ra⟩:=run_part_flat hu hi hone cs (k*i.size) (by omega) w
  have hq:=IH _ va w (by simp;omega) ra
  have hrest:=check_items hu hi hone IH (cs:=cs) (w:=w) m (k+1) (by rw [show k+1+m=k+(m+1) by omega];exact hle)
  rw [List.range'_succ]
  simp only [List.forIn_cons,Sem.run_bind,run_sizeOf hi,pa,hq,Result.andThen_ok,Sem.run_pure]
  simpa using hrest
theorem check_flat {em:Bool}:∀ (d:Nat) (t:TypeId) (ks:List Nat) (dd:Nat),d≤dd→flatT P d t=some ks→∀ (cs:List Value) v (w:World),cs.length=ks.length→ValOf P t cs v→(Instr.checkKey em dd t v).run P w=.ok () w
 | 0,t,ks,dd,_,h=>by simp [flatT] at h
 | d+1,t,ks,dd,hd,h=>by
  intro cs v w hl hv
  obtain ⟨dd,rfl⟩:∃ m,dd=m+1:=⟨dd - 1,by omega⟩
  have IH:∀ t ks,flatT P d t=some ks→∀ (cs:List Value) v (w:World),cs.length=ks.length→ValOf P t cs v→(Instr.checkKey em dd t v).run P w=.ok () w:=fun t ks h=>check_flat d t ks dd (by omega) h
  obtain ⟨u,hu,ha⟩:=hv
  simp only [flatT,hu] at h
  cases u with
  | struct fs=>
   rcases ha with ⟨_,rfl⟩ | ⟨ha,_⟩
   ·simp only at h
    cases hp:P.stoodInHeld t with
    | true=>rw [hp] at h;cases h
    | false=>
     rw [hp] at h
     have:=check_fields (em:=em) (dd:=dd) IH (cs:=cs) (w:=w) fs.toList 0 ks h (by omega)
     simp only [Instr.checkKey,Sem.run_bind,run_underlying hu,Result.andThen_ok]
     rw [← Array.forIn_toList]
     rw [this];rfl
   ·simp [aggD] at ha
  | array n e=>
   rcases ha with ⟨_,rfl⟩ | ⟨ha,_⟩
   ·simp only at h
    split at h
    ·rename_i i l h1 h2
     cases hbq:Nat.beq i.size l.length with
     | false=>rw [hbq] at h;cases h
     | true=>
      rw [hbq] at h;cases h
      have e1:=Nat.eq_of_beq_eq_true hbq
      have hue:∃ u,P.underlying e=some u:=by
       cases hu:P.underlying e with
       | some u=>exact ⟨u,rfl⟩
       | none=>
        cases d with
        | zero=>simp [flatT] at h2
        | succ d=>simp [flatT,hu] at h2
      obtain ⟨ue,hue⟩:=hue
      have hone:aggD ue=false→i.size=1:=fun ha=>by rw [e1];exact flat_one hue h2 ha
      have:=check_items (em:=em) (dd:=dd) hue h1 hone (fun cs v w hl hv=>IH e l h2 cs v w (by omega) hv) (cs:=cs) (w:=w) n 0 (by rw [Nat.zero_add,e1,hl,flat_rep_len];exact Nat.le_refl _)
      simp only [Instr.checkKey,Sem.run_bind,run_underlying hu,Result.andThen_ok]
      simp only [Std.Legacy.Range.forIn_eq_forIn_range',Std.Legacy.Range.size,Nat.sub_zero,Nat.add_one_sub_one,Nat.div_one]
      rw [this];rfl
    ·cases h
   ·simp [aggD] at ha
  | int k=>
   rcases ha with ⟨ha,_⟩ | ⟨_,rfl⟩
   ·simp [aggD] at ha
   ·simp [Instr.checkKey,run_underlying hu]
  | bool=>
   rcases ha with ⟨ha,_⟩ | ⟨_,rfl⟩
   ·simp [aggD] at ha
   ·simp [Instr.checkKey,run_underlying hu]
  | string=>
   rcases ha with ⟨ha,_⟩ | ⟨_,rfl⟩
   ·simp [aggD] at ha
   ·simp [Instr.checkKey,run_underlying hu]
  | _=>simp at h
def lookD (ks:List Nat):List (DV×DV)→List D→Nat→Option (Option (Nat×DV))
 | [],_,_=>some none
 | (.a xs,v)::es,key,i=>match eqDs ks key xs with
  | some true=>some (some (i,v))
  | some false=>bif Nat.beq xs.length ks.length then lookD ks es key (i+1) else none
  | none=>none
 | (.c _,_)::_,_,_=>none
theorem find_flat {kt:TypeId} {ks:List Nat} (hf:FlatT P kt ks) {A:Nat→Prop} {w:World} {key:List D} {ck:List Value} (hkl:ck.length=ks.length) (hkr:CellsD A w key ck ks.length):∀ (es:List (DV×DV)) (en:List MapEntry) (i:Nat) (r:Option (Nat×DV)),
  en.length=es.length→(∀ (i:Nat) k v e,es[i]?=some (k,v)→en[i]?=some e→DVRel A w k e.key∧DVRel A w v e.val)→(∀ (i:Nat) xs v,es[i]?=some (.a xs,v)→xs.length=ks.length)→lookD ks es key i=some r →
  (r=none∧(Instr.findAsking kt (.agg ck.toArray) en i).run P w=.ok none w)∨∃ j v u,r=some (j,v)∧(Instr.findAsking kt (.agg ck.toArray) en i).run P w=.ok (some (j,u)) w∧DVRel A w v u
 | [],en,i,r,hl,hr,_,h=>by
  simp only [lookD] at h;cases h
  cases en with
  | nil=>exact .inl ⟨rfl,by simp [Instr.findAsking]⟩
  | cons=>simp at hl
 | (.c _,_)::es,en,i,r,hl,hr,_,h=>by simp [lookD] at h
 | (.a xs,v)::es,en,i,r,hl,hr,hxl,h=>by
  cases en with
  | nil=>simp at hl
  | cons e en=>
   obtain ⟨d1,d2⟩:=hr 0 (.a xs) v e (by simp) (by simp)
   have hxs:=hxl 0 xs v (by simp)
   have hu:∃ u,P.underlying kt=some u∧aggD u=true:=by
    have:=hf.agg
    cases hu:P.underlying kt with
    | some u=>rw [hu] at this;exact ⟨u,rfl,this⟩
    | none=>rw [hu] at this;cases this
   obtain ⟨u,hu,ha⟩:=hu
   cases he:e.key with
   | agg cs=>
    rw [he] at d1
    generalize hcs:cs=cs0 at d1
    cases d1 with
    | a _ vs hvl hvr=>
     have key2:∀ b,eqDs ks key xs=some b→(Op.equal kt (.agg ck.toArray) e.key).run P w=.ok b w:=fun b hb=>by
      rw [he,hcs]
      exact eq_flat 20 kt ks 10000 (by omega) hf.flat A w key xs ck vs _ _ b hkl (by omega) hkr ⟨by omega,by omega,fun i x v hi hx hv=>hvr i x v hx hv⟩ ⟨u,hu,.inl ⟨ha,rfl⟩⟩ ⟨u,hu,.inl ⟨ha,rfl⟩⟩ hb
     simp only [lookD] at h
     split at h
     ·rename_i hb
      cases h
      refine .inr ⟨i,v,e.val,rfl,?_,d2⟩
      simp [Instr.findAsking,key2 true hb]
     ·rename_i hb
      have hbl:Nat.beq xs.length ks.length=true:=by rw [hxs];exact Nat.beq_refl _
      rw [hbl] at h
      have:=find_flat hf hkl hkr es en (i+1) r (by simpa using hl) (fun j k v e hk he=>hr (j+1) k v e (by simpa using hk) (by simpa using he)) (fun j xs v h=>hxl (j+1) xs v (by simpa using h)) h
      simp only [Instr.findAsking,Sem.run_bind,key2 false hb,Result.andThen_ok,Bool.false_eq_true,if_false]
      exact this
     ·cases h
   | _=>rw [he] at d1;cases d1
def dvV:Bool→List D→V
 | true,xs=>.agg (xs.map .d)
 | false,[x]=>.d x
 | false,_=>.undef
theorem findKey_flat {kt:TypeId} {ks:List Nat} (hf:FlatT P kt ks) (k:Value) (w:World) (en:List MapEntry) {r:Option (Nat×Value)} (h:(Instr.findAsking kt k en).run P w=.ok r w):(Instr.findKey kt k en).run P w=.ok r w:=by
 have hu:∃ u,P.underlying kt=some u∧aggD u=true:=by
  have:=hf.agg
  cases hu:P.underlying kt with
  | some u=>rw [hu] at this;exact ⟨u,rfl,this⟩
  | none=>rw [hu] at this;cases this
 obtain ⟨u,hu,ha⟩:=hu
 have hn:∀ a b,Instr.sameNow u a b=none:=fun a b=>by
  cases u<;>first | (simp [aggD] at ha;done) | rfl
 cases en with
 | nil=>
  simp only [Instr.findAsking,Sem.run_pure] at h
  simp only [Instr.findKey,Sem.run_bind,run_underlying hu,Result.andThen_ok,Instr.findNow]
  exact h
 | cons e en=>
  simp only [Instr.findKey,Sem.run_bind,run_underlying hu,Result.andThen_ok,Instr.findNow,hn]
  exact h
theorem s_mkmap {nm:Nat} {fr:Fr}:LStp P G nt .mkmap [] [] (.map nm) ⟨[(nm,.mp [])],[nm]⟩ fr fr:=by
 intro U E H o F c a w next Q ht hF hR hE hH hn k
 generalize hop:o.op=op at ht
 cases ht with
 | mkmap=>
  obtain ⟨hst,hR',hx⟩:=hR.new nm 0 (.mp []) (.map #[] 0) (hn nm (by simp)) (fun hs hA=>⟨#[],0,heap_alloc_at _ _,rfl,fun i k v e h=>by simp at h⟩)
  refine wp_value hF (cv:=.map (some w.heap.size)) (by simp [hop]) ?_ (k _ _ (w.alloc (.map #[] 0)) hst hR' (.map nm w.heap.size 0 [] (upd_same _ _ _) (upd_same _ _ _)) hx)
  simp [execOp,hop,Instr.makeMap]
theorem map_inv {c:Cx} {H:Hp} {U:Nat→Prop} {fr:Fr} {w:World} (h:HRel G c H U fr w) {r:Nat} {es:List (DV×DV)} {cv:Value} (hv:VRel c H U w (.map r) cv) (hr:H r=some (.mp es)) :
  ∃ g m en clock,cv=.map (some g)∧c.fm r=some (g,m)∧w.heap[g]?=some (.map en clock)∧en.size=es.length∧∀ (i:Nat) k v e,es[i]?=some (k,v)→en[i]?=some e→DVRel c.A w k e.key∧DVRel c.A w v e.val:=by
 cases hv with
 | map _ g m es' hH hf=>
  obtain ⟨g',m',hf',en,clock,h1,h2,h3⟩:=(h.pl r _ hr).resolve_right (fun hn=>by rw [hf] at hn;cases hn.1)
  rw [hf] at hf';cases hf'
  exact ⟨g,m,en,clock,rfl,hf,h1,h2,h3⟩
theorem key_of {c:Cx} {H:Hp} {U:Nat→Prop} {w:World} {key:List D} {kv:Value} (h:VRel c H U w (.agg (key.map .d)) kv):∃ ck:List Value,kv=.agg ck.toArray∧ck.length=key.length∧∀ n,n≤key.length→CellsD c.A w key ck n:=by
 cases h with
 | agg _ ck l1 r1 o1=>
  have hl:ck.length=key.length:=by simpa using l1
  refine ⟨ck,rfl,hl,fun n hn=>⟨hn,by omega,fun i z v hi hz hv=>?_⟩⟩
  have:=r1 i (.d z) v (by rw [List.getElem?_map,hz];rfl) hv
  cases this with | d _ _ h=>exact h
theorem dv_agg {c:Cx} {H:Hp} {U:Nat→Prop} {w:World} {xs:List D} {v:Value} (h:DVRel c.A w (.a xs) v):VRel c H U w (.agg (xs.map .d)) v:=by
 cases h with
 | a _ vs hl hr=>
  refine .agg _ vs (by simpa using hl) (fun i x v hx hv=>?_) (fun v hv=>?_)
  ·rw [List.getElem?_map,Option.map_eq_some_iff] at hx
   obtain ⟨y,hy,rfl⟩:=hx
   exact .d _ _ (hr i y v hy hv)
  ·obtain ⟨i,hi⟩:=List.getElem?_of_mem hv
   have hlt:i<xs.length:=by have:=(List.getElem?_eq_some_iff.1 hi).1;omega
   exact (hr i _ v (List.getElem?_eq_getElem hlt) hi).oneCell
def lookV (z:List D) (ag:Bool):Option (Nat×DV)→V
 | some (_,.a xs)=>.agg (xs.map .d)
 | some (_,.c x)=>.d x
 | none=>dvV ag z
def okV (ok:Bool) (v:V) (is:Bool):V:=bif ok then .tup [v,.d (.bool is)] else v
theorem s_lookup {kt:Nat} {ok ag:Bool} {z:List D} {x k:Opd} {r:Nat} {es:List (DV×DV)} {key:List D} {ks:List Nat} {res:Option (Nat×DV)} {fr:Fr} (hf:FlatT P kt ks) (hk:key.length=ks.length) (hes:∀ (i:Nat) xs v,es[i]?=some (.a xs,v)→xs.length=ks.length) (hl:lookD ks es key 0=some res)
  (hz:dvV ag z≠.undef):LStp P G nt (.lookup kt ok z ag x k) [(x,.map r),(k,.agg (key.map .d))] [(r,.mp es)] (okV ok (lookV z ag res) res.isSome) ⟨[],[]⟩ fr fr:=by
 refine .pure fun U E H o c ac w ht hR hE hH=>?_
 generalize hop:o.op=op' at ht
 generalize hag:ag=ag' at ht
 cases ht with
 | @lookup t _ et u i zv _ xo ko _ _ _ ht hu hi hzz hzs hza h1 h2=>
  subst hag
  obtain ⟨g,m,en,clock,hav,hfm,hg,hsz,hen⟩:=map_inv hR.h (ev_ok hR h1 hE.1) hH.1
  obtain ⟨ck,hkv,hckl,hckr⟩:=key_of (ev_ok hR h2 hE.2.1)
  have huk:∃ u,P.underlying kt=some u∧aggD u=true:=by
   have:=hf.agg
   cases hu:P.underlying kt with
   | some u=>rw [hu] at this;exact ⟨u,rfl,this⟩
   | none=>rw [hu] at this;cases this
  obtain ⟨uk,huk,hak⟩:=huk
  have hchk:=check_flat (P:=P) (em:=en.isEmpty) 20 kt ks 10000 (by omega) hf.flat ck (.agg ck.toArray) w (by omega) ⟨uk,huk,.inl ⟨hak,rfl⟩⟩
  have hzv:(zeroValue et).run P w=.ok zv w:=run_zeroValue hi hzz w
  have hfound:=find_flat hf (A:=c.A) (w:=w) (by omega) (hckr ks.length (by omega)) es en.toList 0 res (by simpa using hsz) (fun i k v e h1 h2=>hen i k v e h1 (by simpa using h2)) hes hl
  -- the value,and that it is right
  have key:∃ v,(∃ q,(Instr.findKey kt (.agg ck.toArray) en.toList).run P w=.ok q w∧((q=none∧v=zv∧res.isSome=false)∨∃ j,q=some (j,v)∧res.isSome=true))∧VRel c H U w (lookV z (aggD u) res) v:=by
   rcases hfound with ⟨rfl,h⟩ | ⟨j,dv,u0,rfl,h,hd⟩
   ·refine ⟨zv,⟨none,findKey_flat hf _ w _ h,.inl ⟨rfl,rfl,rfl⟩⟩,?_⟩
    obtain ⟨hzl,hzr⟩:=trDs_ok hzs
    cases hz':aggD u with
    | true=>
     rw [hz'] at hza
     cases zv with
     | agg cs=>
      simp only [lookV,dvV]
      have:=VRel.agg (c:=c) (H:=H) (U:=U) (w:=w) (z.map .d) cs.toList (by simpa [Value.cells] using hzl) (fun i x v hx hv=>?_) (fun v hv=>?_)
      ·simpa using this
      ·rw [List.getElem?_map,Option.map_eq_some_iff] at hx
       obtain ⟨y,hy,rfl⟩:=hx
       exact .d _ _ (hzr c.A w i y v hy (by simpa [Value.cells] using hv))
      ·obtain ⟨i,hi⟩:=List.getElem?_of_mem hv
       have hlt:i<z.length:=by have:=(List.getElem?_eq_some_iff.1 hi).1;simp [Value.cells] at hzl;simp at this;omega
       exact (hzr c.A w i _ v (List.getElem?_eq_getElem hlt) (by simpa [Value.cells] using hi)).oneCell
     | _=>simp [isAggV] at hza
    | false=>
     rw [hz'] at hz hza
     match z,hz,hzl,hzr with
     | [x],_,hzl,hzr=>
      have hc:zv.cells=#[zv]:=by
       cases zv<;>first | (simp [isAggV] at hza;done) | rfl
      simp only [lookV,dvV]
      exact .d _ _ (hzr c.A w 0 x zv rfl (by rw [hc];rfl))
     | [],hz,_,_=>exact absurd rfl hz
     | _::_::_,hz,_,_=>exact absurd rfl hz
   ·refine ⟨u0,⟨_,findKey_flat hf _ w _ h,.inr ⟨j,rfl,rfl⟩⟩,?_⟩
    cases dv with
    | c x=>cases hd with | c _ _ h=>exact .d _ _ h
    | a xs=>exact dv_agg hd
  obtain ⟨v,⟨q,hq,hqr⟩,hv⟩:=key
  refine ⟨by simp,(if ok then .tuple #[v,.bool res.isSome] else v),?_,?_⟩
  ·rcases hqr with ⟨rfl,rfl,hs⟩ | ⟨j,rfl,hs⟩
   ·simp only [execOp,hop,hav,hkv,Instr.lookup,run_underlying ht,Sem.run_bind,Result.andThen_ok,MapKept.run_getObj_map hg,Sem.run_pure,hchk,hq,hzv,hs]
   ·simp only [execOp,hop,hav,hkv,Instr.lookup,run_underlying ht,Sem.run_bind,Result.andThen_ok,MapKept.run_getObj_map hg,Sem.run_pure,hchk,hq,hzv,hs]
  ·cases ok with
   | false=>simpa [okV] using hv
   | true=>
    simp only [okV,cond_true,if_true]
    refine .tup _ [v,.bool res.isSome] rfl (fun i x u hx hu=>?_)
    match i with
    | 0=>simp at hx hu;subst hx hu;exact hv
    | 1=>simp at hx hu;subst hx hu;exact .d _ _ (.bool _)
    | n+2=>simp at hx
theorem fmp_inv {c:Cx} {H:Hp} {U:Nat→Prop} {w:World} {es:List (DV×DV)} {cv:Value} (hv:VRel c H U w (.fmp es) cv) :
  ∃ g en clock,cv=.map (some g)∧w.heap[g]?=some (.map en clock)∧en.size=es.length∧∀ (i:Nat) k v e,es[i]?=some (k,v)→en[i]?=some e→DVRel c.A w k e.key∧DVRel c.A w v e.val:=by
 cases hv with
 | fmp _ g en clock hA hg hsz hen=>exact ⟨g,en,clock,rfl,hg,hsz,hen⟩
theorem s_lookupF {kt:Nat} {ok ag:Bool} {z:List D} {x k:Opd} {es:List (DV×DV)} {key:List D} {ks:List Nat} {res:Option (Nat×DV)} {fr:Fr} (hf:FlatT P kt ks) (hk:key.length=ks.length) (hes:∀ (i:Nat) xs v,es[i]?=some (.a xs,v)→xs.length=ks.length) (hl:lookD ks es key 0=some res)
  (hz:dvV ag z≠.undef):LStp P G nt (.lookup kt ok z ag x k) [(x,.fmp es),(k,.agg (key.map .d))] [] (okV ok (lookV z ag res) res.isSome) ⟨[],[]⟩ fr fr:=by
 refine .pure fun U E H o c ac w ht hR hE hH=>?_
 generalize hop:o.op=op' at ht
 generalize hag:ag=ag' at ht
 cases ht with
 | @lookup t _ et u i zv _ xo ko _ _ _ ht hu hi hzz hzs hza h1 h2=>
  subst hag
  obtain ⟨g,en,clock,hav,hg,hsz,hen⟩:=fmp_inv (ev_ok hR h1 hE.1)
  obtain ⟨ck,hkv,hckl,hckr⟩:=key_of (ev_ok hR h2 hE.2.1)
  have huk:∃ u,P.underlying kt=some u∧aggD u=true:=by
   have:=hf.agg
   cases hu:P.underlying kt with
   | some u=>rw [hu] at this;exact ⟨u,rfl,this⟩
   | none=>rw [hu] at this;cases this
  obtain ⟨uk,huk,hak⟩:=huk
  have hchk:=check_flat (P:=P) (em:=en.isEmpty) 20 kt ks 10000 (by omega) hf.flat ck (.agg ck.toArray) w (by omega) ⟨uk,huk,.inl ⟨hak,rfl⟩⟩
  have hzv:(zeroValue et).run P w=.ok zv w:=run_zeroValue hi hzz w
  have hfound:=find_flat hf (A:=c.A) (w:=w) (by omega) (hckr ks.length (by omega)) es en.toList 0 res (by simpa using hsz) (fun i k v e h1 h2=>hen i k v e h1 (by simpa using h2)) hes hl
  -- the value,and that it is right
  have key:∃ v,(∃ q,(Instr.findKey kt (.agg ck.toArray) en.toList).run P w=.ok q w∧((q=none∧v=zv∧res.isSome=false)∨∃ j,q=some (j,v)∧res.isSome=true))∧VRel c H U w (lookV z (aggD u) res) v:=by
   rcases hfound with ⟨rfl,h⟩ | ⟨j,dv,u0,rfl,h,hd⟩
   ·refine ⟨zv,⟨none,findKey_flat hf _ w _ h,.inl ⟨rfl,rfl,rfl⟩⟩,?_⟩
    obtain ⟨hzl,hzr⟩:=trDs_ok hzs
    cases hz':aggD u with
    | true=>
     rw [hz'] at hza
     cases zv with
     | agg cs=>
      simp only [lookV,dvV]
      have:=VRel.agg (c:=c) (H:=H) (U:=U) (w:=w) (z.map .d) cs.toList (by simpa [Value.cells] using hzl) (fun i x v hx hv=>?_) (fun v hv=>?_)
      ·simpa using this
      ·rw [List.getElem?_map,Option.map_eq_some_iff] at hx
       obtain ⟨y,hy,rfl⟩:=hx
       exact .d _ _ (hzr c.A w i y v hy (by simpa [Value.cells] using hv))
      ·obtain ⟨i,hi⟩:=List.getElem?_of_mem hv
       have hlt:i<z.length:=by have:=(List.getElem?_eq_some_iff.1 hi).1;simp [Value.cells] at hzl;simp at this;omega
       exact (hzr c.A w i _ v (List.getElem?_eq_getElem hlt) (by simpa [Value.cells] using hi)).oneCell
     | _=>simp [isAggV] at hza
    | false=>
     rw [hz'] at hz hza
     match z,hz,hzl,hzr with
     | [x],_,hzl,hzr=>
      have hc:zv.cells=#[zv]:=by
       cases zv<;>first | (simp [isAggV] at hza;done) | rfl
      simp only [lookV,dvV]
      exact .d _ _ (hzr c.A w 0 x zv rfl (by rw [hc];rfl))
     | [],hz,_,_=>exact absurd rfl hz
     | _::_::_,hz,_,_=>exact absurd rfl hz
   ·refine ⟨u0,⟨_,findKey_flat hf _ w _ h,.inr ⟨j,rfl,rfl⟩⟩,?_⟩
    cases dv with
    | c x=>cases hd with | c _ _ h=>exact .d _ _ h
    | a xs=>exact dv_agg hd
  obtain ⟨v,⟨q,hq,hqr⟩,hv⟩:=key
  refine ⟨by simp,(if ok then .tuple #[v,.bool res.isSome] else v),?_,?_⟩
  ·rcases hqr with ⟨rfl,rfl,hs⟩ | ⟨j,rfl,hs⟩
   ·simp only [execOp,hop,hav,hkv,Instr.lookup,run_underlying ht,Sem.run_bind,Result.andThen_ok,MapKept.run_getObj_map hg,Sem.run_pure,hchk,hq,hzv,hs]
   ·simp only [execOp,hop,hav,hkv,Instr.lookup,run_underlying ht,Sem.run_bind,Result.andThen_ok,MapKept.run_getObj_map hg,Sem.run_pure,hchk,hq,hzv,hs]
  ·cases ok with
   | false=>simpa [okV] using hv
   | true=>
    simp only [okV,cond_true,if_true]
    refine .tup _ [v,.bool res.isSome] rfl (fun i x u hx hu=>?_)
    match i with
    | 0=>simp at hx hu;subst hx hu;exact hv
    | 1=>simp at hx hu;subst hx hu;exact .d _ _ (.bool _)
    | n+2=>simp at hx
def dvOf:V→Option DV
 | .d x=>some (.c x)
 | .agg cs=>match unV cs with | some xs=>some (.a xs) | none=>none
 | _=>none
theorem dvOf_ok {c:Cx} {H:Hp} {U:Nat→Prop} {w:World} {v:V} {dv:DV} {cv:Value} (h:dvOf v=some dv) (hv:VRel c H U w v cv):DVRel c.A w dv cv:=by
 cases v<;>simp only [dvOf] at h<;>try (cases h;done)
 ·cases h;cases hv with | d _ _ h=>exact .c _ _ h
 ·split at h
  ·rename_i xs hx
   cases h
   have:=unV_eq hx;subst this
   cases hv with
   | agg _ vs hl hr h1=>
    have hall:∀ (i:Nat) x v,xs[i]?=some x→vs[i]?=some v→DRel c.A w x v:=fun i x v hx hv=>(by
     have:=hr i (.d x) v (by rw [List.getElem?_map,hx];rfl) hv
     cases this with | d _ _ h=>exact h)
    exact .a xs vs (by simpa using hl) hall
  ·cases h
theorem s_mapup {kt:Nat} {m k x:Opd} {r:Nat} {es:List (DV×DV)} {key:List D} {v:V} {dv:DV} {ks:List Nat} {fr:Fr} (hf:FlatT P kt ks) (hk:key.length=ks.length) (hes:∀ (i:Nat) xs v,es[i]?=some (.a xs,v)→xs.length=ks.length) (hl:lookD ks es key 0=some none)
  (hv:dvOf v=some dv):LStp P G nt (.mapup kt m k x) [(m,.map r),(k,.agg (key.map .d)),(x,v)] [(r,.mp es)] .undef ⟨[(r,.mp (es++[(.a key,dv)]))],[]⟩ fr fr:=by
 intro U E H o F c a w next Q ht hF hR hE hH hn kk
 generalize hop:o.op=op' at ht
 have key':∀ (t et:Nat) (mo ko xo:Operand),P.underlying t=some (.map kt et)→trO mo=some m→trO ko=some k→trO xo=some x→(execOp a.eval o=(do (Instr.mapUpdate t (a.eval mo) (a.eval ko) (a.eval xo));pure .skip:Sem Next))→(∀ c,o.op≠.defer c)→o.wpIn F 0 P a w next Q:=fun t et mo ko xo ht h1 h2 h3 hex hd=>by
  obtain ⟨g,m0,en,clock,hav,hfm,hg,hsz,hen⟩:=map_inv hR.h (ev_ok hR h1 hE.1) hH.1
  obtain ⟨ck,hkv,hckl,hckr⟩:=key_of (ev_ok hR h2 hE.2.1)
  have hxv:=dvOf_ok hv (ev_ok hR h3 hE.2.2.1)
  generalize a.eval xo=xv at hxv hex
  have huk:∃ u,P.underlying kt=some u∧aggD u=true:=by
   have:=hf.agg
   cases hu:P.underlying kt with
   | some u=>rw [hu] at this;exact ⟨u,rfl,this⟩
   | none=>rw [hu] at this;cases this
  obtain ⟨uk,huk,hak⟩:=huk
  have hchk:=check_flat (P:=P) (em:=false) 20 kt ks 10000 (by omega) hf.flat ck (.agg ck.toArray) w (by omega) ⟨uk,huk,.inl ⟨hak,rfl⟩⟩
  have hfound:=find_flat hf (A:=c.A) (w:=w) (by omega) (hckr ks.length (by omega)) es en.toList 0 none (by simpa using hsz) (fun i k v e h1 h2=>hen i k v e h1 (by simpa using h2)) hes hl
  have hfk:(Instr.findKey kt (.agg ck.toArray) en.toList).run P w=.ok none w:=by
   rcases hfound with ⟨_,h⟩ | ⟨j,dv,u0,e,_⟩
   ·exact findKey_flat hf _ w _ h
   ·cases e
  let o':Obj:=.map (en.push { key:=.agg ck.toArray,val:=xv,born:=clock }) (clock+1)
  have hrun:(Instr.mapUpdate t (.map (some g)) (.agg ck.toArray) xv).run P w=.ok () { w with heap:=w.heap.setIfInBounds g o' }:=by
   simp only [Instr.mapUpdate,run_underlying ht,Sem.run_bind,Result.andThen_ok,MapKept.run_getObj_map hg,hchk,hfk,MapKept.run_setObj_map _ hg]
   rfl
  let w':World:={ w with heap:=w.heap.setIfInBounds g o' }
  have hglt:=(Array.getElem?_eq_some_iff.1 hg).1
  have hg':w'.heap[g]?=some o':=by simp [w',hglt]
  have hoth:∀ g0,g0≠g→w'.heap[g0]?=w.heap[g0]?:=fun g0 hne=>by simp [w',Array.getElem?_setIfInBounds_ne (Ne.symm hne)]
  have hs:HStep c H U (c.put r g m0) (upd H r (.mp (es++[(.a key,dv)]))) U:=by
   refine ⟨fun _ h=>h,rfl,fun _ h=>h,fun q T' cs hq=>?_,fun q T' es' zs' hq0 hq=>?_,fun q es' hq=>?_,fun q hq=>?_,fun q T' cs hq0 hq=>?_⟩
   ·have hne:r≠q:=fun e=>by subst e;rw [hH.1] at hq;cases hq
    exact ⟨upd_other _ _ _ _ hne,cs,(upd_other _ _ _ _ hne).trans hq⟩
   ·have hne:r≠q:=fun e=>by subst e;rw [upd_same] at hq;cases hq
    rw [upd_other _ _ _ _ hne] at hq
    exact ⟨zs',hq,Nat.le_refl _,fun _=>upd_other _ _ _ _ hne⟩
   ·by_cases e:r=q
    ·subst e;exact ⟨(upd_same _ _ _).trans hfm.symm,_,upd_same _ _ _⟩
    ·exact ⟨upd_other _ _ _ _ e,es',(upd_other _ _ _ _ e).trans hq⟩
   ·have hne:r≠q:=fun e=>by subst e;rw [hH.1] at hq;cases hq
    exact ⟨upd_other _ _ _ _ hne,(upd_other _ _ _ _ hne).trans hq⟩
   ·have hne:r≠q:=fun e=>by subst e;rw [upd_same] at hq;cases hq
    rw [upd_other _ _ _ _ hne] at hq
    exact ⟨cs,hq,upd_other _ _ _ _ hne⟩
  have hA:∀ g0,c.A g0→w'.heap[g0]?=w.heap[g0]?:=fun g0 h0=>hoth g0 (fun e=>hR.h.nA _ _ _ _ hH.1 hfm (e▸h0))
  have hB:BRel (c.put r g m0) (upd H r (.mp (es++[(.a key,dv)]))) U w' g m0 (.mp (es++[(.a key,dv)])):=by
   refine ⟨_,_,hg',by simp [hsz],fun i k v e hk he=>?_⟩
   by_cases hi:i<es.length
   ·rw [List.getElem?_append_left hi] at hk
    rw [Array.getElem?_push_lt (by omega)] at he
    have:=hen i k v e hk (by rw [Array.getElem?_eq_getElem (by omega)];exact he)
    exact ⟨this.1.mono (fun _ h=>h) hA,this.2.mono (fun _ h=>h) hA⟩
   ·have hi':i=es.length:=by
     have:=(List.getElem?_eq_some_iff.1 hk).1;simp at this;omega
    subst hi'
    rw [List.getElem?_append_right (Nat.le_refl _)] at hk
    simp at hk
    obtain ⟨rfl,rfl⟩:=hk
    rw [← hsz,Array.getElem?_push_size] at he
    cases he
    exact ⟨.a key ck hckl (fun i x v hx hv=>((hckr key.length (Nat.le_refl _)).2.2 i x v (by have:=(List.getElem?_eq_some_iff.1 hx).1;exact this) hx hv).mono (fun _ h=>h) hA),hxv.mono (fun _ h=>h) hA⟩
  have hp:=hR.h.put (w':=w') r g m0 (.mp (es++[(.a key,dv)])) hs rfl rfl rfl (by simp [w']) (fun g0 hg0 hne=>hoth g0 hne) (.inr ⟨_,m0,hH.1,hfm⟩) (hR.h.lt _ _ hH.1) hB
  have hu0:usOf ([]:List Nat) U=U:=usOf_nil U
  refine wp_skip' hF hd (w':=w') ?_ (kk (c.put r g m0) undef _ ?_ ?_ .undef hp.2)
  ·rw [hex,hav,hkv,Sem.run_bind,hrun];rfl
  ·rw [hu0];exact hs
  ·rw [hu0];exact hR.step hs hp.1 hp.2
 cases ht with
 | mapup ht h1 h2 h3=>exact key' _ _ _ _ _ ht h1 h2 h3 (by simp only [execOp,hop]) (by simp [hop])
 | mapin ht h1 h2 h3=>exact key' _ _ _ _ _ ht h1 h2 h3 (by simp only [execOp,hop]) (by simp [hop])
end
end Go.Abs
