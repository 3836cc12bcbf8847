/- The framework: what a piece of code does to told states, part 5. Conditions: none. -/
import Derived.Test.YthjogmcdfokihaaDoorFwd
import Derived.CallsIn
import Derived.OrdersIn
import Derived.Below
import Derived.Laws.World
import Derived.Laws.Cells
import Derived.Laws.Entries
import Derived.Laws.CopyRow
import Derived.IntWalk
import Derived.RangeFuncRecord
import Derived.RangeFuncLeaves
import Derived.KernelRfl
import Derived.Maps.AppendAt
import Derived.Laws.MakeOwn
import Derived.Laws.StructEq
import Derived.ChangeKeysEq
import Derived.MapKept
import Derived.ProofKit
import Derived.OpenShut
import Derived.LaidMore
import Derived.Lib.SliceRun
set_option linter.unusedVariables false
set_option linter.unusedSimpArgs false
namespace Go.Abs
structure SR where
 xs:List (Opd×V)
 rs:List (Nat×Blk)
 v:V
 e:Eff
section
variable {P:Program} {nt:Nat} {G:Gl}
theorem s_quoW {x y:Opd} {k:IntKind} {p q:Int} {fr:Fr} (hq:q≠0):LStp P G nt (.bin .quo x y) [(x,.d (.int k p)),(y,.d (.int k q))] [] (.d (.int k (k.wrap (p.tdiv q)))) ⟨[],[]⟩ fr fr:=
 s_binop (fun t w=>by simp [binOp,Op.intArith,Op.intDiv,hq]) (fun _ _ _ _=>.d _ _ (.int _ _))
def asI:Option V→Option (IntKind×Int) | some (.d (.int k p))=>some (k,p) | _=>none
def asB:Option V→Option Bool | some (.d (.bool b))=>some b | _=>none
def asP:Option V→Option (Nat×Nat) | some (.ptr r o)=>some (r,o) | _=>none
def asF:Option V→Option (List D×Nat) | some (.fp row o)=>some (row,o) | _=>none
def asE:Option V→Option ((Nat×Nat)×(Nat×Nat)) | some (.eptr r n i o)=>some ((r,n),(i,o)) | _=>none
def asA:Option V→Option (List V) | some (.agg cs)=>some cs | _=>none
def asT:Option V→Option (List V) | some (.tup cs)=>some cs | _=>none
def asV:Option Blk→Option (Nat×List V) | some (.var T cs)=>some (T,cs) | _=>none
theorem asI_eq {o:Option V} {k:IntKind} {p:Int} (h:asI o=some (k,p)):o=some (.d (.int k p)):=by unfold asI at h;split at h<;>simp_all
theorem asB_eq {o:Option V} {b:Bool} (h:asB o=some b):o=some (.d (.bool b)):=by unfold asB at h;split at h<;>simp_all
theorem asP_eq {o:Option V} {r f:Nat} (h:asP o=some (r,f)):o=some (.ptr r f):=by unfold asP at h;split at h<;>simp_all
theorem asF_eq {o:Option V} {r:List D} {f:Nat} (h:asF o=some (r,f)):o=some (.fp r f):=by unfold asF at h;split at h<;>simp_all
theorem asE_eq {o:Option V} {r n i f:Nat} (h:asE o=some ((r,n),(i,f))):o=some (.eptr r n i f):=by unfold asE at h;split at h<;>simp_all
theorem asA_eq {o:Option V} {r:List V} (h:asA o=some r):o=some (.agg r):=by unfold asA at h;split at h<;>simp_all
theorem asT_eq {o:Option V} {r:List V} (h:asT o=some r):o=some (.tup r):=by unfold asT at h;split at h<;>simp_all
theorem asV_eq {o:Option Blk} {T:Nat} {r:List V} (h:asV o=some (T,r)):o=some (.var T r):=by unfold asV at h;split at h<;>simp_all
def quR:BinOp→IntKind→Int→Int→Option Int
 | .quo,k,p,q=>match decide (q=0) with | false=>some (k.wrap (p.tdiv q)) | true=>none
 | .rem,k,p,q=>match decide (q=0) with | false=>some (p.tmod q) | true=>none
 | .and,k,p,q=>biR .and k p q
 | .or,k,p,q=>biR .or k p q
 | .xor,k,p,q=>biR .xor k p q
 | _,_,_,_=>none
def binC (op:BinOp) (k:IntKind) (p q:Int):Option D:=
 match arR op p q with
 | some r=>some (.int k (k.wrap r))
 | none=>match cmR op p q with
  | some b=>some (.bool b)
  | none=>match quR op k p q with
   | some r=>some (.int k r)
   | none=>none
theorem binC_ok {op:BinOp} {x y:Opd} {k:IntKind} {p q:Int} {d:D} {fr:Fr} (h:binC op k p q=some d):LStp P G nt (.bin op x y) [(x,.d (.int k p)),(y,.d (.int k q))] [] (.d d) ⟨[],[]⟩ fr fr:=by
 unfold binC at h
 split at h
 ·cases h;exact s_arW (by assumption)
 ·split at h
  ·cases h;exact s_cm (by assumption)
  ·split at h
   ·rename_i r hr
    cases h
    unfold quR at hr
    split at hr
    ·split at hr
     ·cases hr;exact s_quoW (by simpa using ‹decide (q=0)=false›)
     ·cases hr
    ·split at hr
     ·cases hr;exact s_rem (by simpa using ‹decide (q=0)=false›)
     ·cases hr
    ·exact s_bits hr
    ·exact s_bits hr
    ·exact s_bits hr
    ·cases hr
   ·cases h
def opC (G:Gl) (σ:St):IOp→Option SR
 | .mv x=>match ev G (look σ.env) x with
  | some u=>some ⟨[(x,u)],[],u,⟨[],[]⟩⟩
  | none=>none
 | .pick c a b=>match asB (ev G (look σ.env) c) with
  | some true=>match ev G (look σ.env) a with
   | some u=>some ⟨[(c,.d (.bool true)),(a,u)],[],u,⟨[],[]⟩⟩
   | none=>none
  | some false=>match ev G (look σ.env) b with
   | some u=>some ⟨[(c,.d (.bool false)),(b,u)],[],u,⟨[],[]⟩⟩
   | none=>none
  | none=>none
 | .bin op x y=>match asI (ev G (look σ.env) x) with
  | some (k,p)=>match asI (ev G (look σ.env) y) with
   | some (k',q)=>match decide (k=k') with
    | true=>match binC op k p q with
     | some d=>some ⟨[(x,.d (.int k p)),(y,.d (.int k' q))],[],.d d,⟨[],[]⟩⟩
     | none=>none
    | false=>none
   | none=>none
  | none=>none
 | .beq neg x y=>match asB (ev G (look σ.env) x) with
  | some p=>match asB (ev G (look σ.env) y) with
   | some q=>some ⟨[(x,.d (.bool p)),(y,.d (.bool q))],[],.d (.bool (neg != (p==q))),⟨[],[]⟩⟩
   | none=>none
  | none=>none
 | .un .not x=>match asB (ev G (look σ.env) x) with
  | some p=>some ⟨[(x,.d (.bool p))],[],.d (.bool (!p)),⟨[],[]⟩⟩
  | none=>none
 | .un .neg x=>match asI (ev G (look σ.env) x) with
  | some (k,p)=>some ⟨[(x,.d (.int k p))],[],.d (.int k (k.wrap (-p))),⟨[],[]⟩⟩
  | none=>none
 | .ext x i=>match asT (ev G (look σ.env) x) with
  | some vs=>match vs[i]? with
   | some u=>some ⟨[(x,.tup vs)],[],u,⟨[],[]⟩⟩
   | none=>none
  | none=>none
 | .fld true off sz x=>match asA (ev G (look σ.env) x) with
  | some cs=>some ⟨[(x,.agg cs)],[],.agg ((cs.drop off).take sz),⟨[],[]⟩⟩
  | none=>none
 | .fld false off sz x=>match asA (ev G (look σ.env) x) with
  | some cs=>match cs[off]? with
   | some u=>some ⟨[(x,.agg cs)],[],u,⟨[],[]⟩⟩
   | none=>none
  | none=>none
 | .len x=>match ev G (look σ.env) x with
  | some (.own r n)=>some ⟨[(x,.own r n)],[],.d (.int .i64 n),⟨[],[]⟩⟩
  | some (.d .nilSl)=>some ⟨[(x,.d .nilSl)],[],.d (.int .i64 0),⟨[],[]⟩⟩
  | some (.d (.sl es xs))=>some ⟨[(x,.d (.sl es xs))],[],.d (.int .i64 xs.length),⟨[],[]⟩⟩
  | _=>none
 | .lenS x=>match ev G (look σ.env) x with
  | some (.d (.str s))=>some ⟨[(x,.d (.str s))],[],.d (.int .i64 s.size),⟨[],[]⟩⟩
  | _=>none
 | .mm mx xs=>match evs G (look σ.env) xs with
  | some (.d (.int k x)::vs)=>match mmD k mx x vs with
   | some r=>match Nat.beq xs.length (vs.length+1) with
    | true=>some ⟨xs.zip (.d (.int k x)::vs),[],.d (.int k r),⟨[],[]⟩⟩
    | false=>none
   | none=>none
  | _=>none
 | .mkf f fs cs=>match evs G (look σ.env) fs with
  | some us=>match evs G (look σ.env) cs with
   | some vs=>match Nat.beq fs.length us.length&&Nat.beq cs.length vs.length with
    | true=>some ⟨fs.zip us++cs.zip vs,[],.clo f us vs,⟨[],[]⟩⟩
    | false=>none
   | none=>none
  | none=>none
 | .build z parts=>match evs G (look σ.env) (opOf parts) with
  | some vs=>match fillV (z.map .d) (plOf parts) vs with
   | some out=>match Nat.beq (opOf parts).length vs.length with
    | true=>some ⟨(opOf parts).zip vs,[],.agg out,⟨[],[]⟩⟩
    | false=>none
   | none=>none
  | none=>none
 | .bsl T es n z parts=>match evs G (look σ.env) (opOf parts) with
  | some vs=>match fillV ((repD n z).map .d) (plOf parts) vs with
   | some out=>match unV out with
    | some cs=>match Nat.beq (opOf parts).length vs.length&&(Nat.beq cs.length (n*es)&&Nat.ble n maxLen) with
     | true=>some ⟨(opOf parts).zip vs,[],.own σ.nx n,⟨[(σ.nx,.row T es (rowsOf es n cs))],[σ.nx]⟩⟩
     | false=>none
    | none=>none
   | none=>none
  | none=>none
 | .box T x=>match ev G (look σ.env) x with
  | some u=>match cellsOf u with
   | some cs=>some ⟨[(x,u)],[],.ptr σ.nx 0,⟨[(σ.nx,.var T cs)],[σ.nx]⟩⟩
   | none=>none
  | none=>none
 | .alloc T z=>some ⟨[],[],.ptr σ.nx 0,⟨[(σ.nx,.var T (z.map .d))],[σ.nx]⟩⟩
 | .load ag sz x=>match asP (ev G (look σ.env) x) with
  | some (r,off)=>match asV (look σ.heap r) with
   | some (T,cs)=>match ag with
    | true=>match Nat.ble (off+sz) cs.length with
     | true=>some ⟨[(x,.ptr r off)],[(r,.var T cs)],.agg (partL cs off sz),⟨[],[]⟩⟩
     | false=>none
    | false=>match cs[off]? with
     | some u=>some ⟨[(x,.ptr r off)],[(r,.var T cs)],u,⟨[],[]⟩⟩
     | none=>none
   | none=>none
  | none=>match asF (ev G (look σ.env) x) with
   | some (row,off)=>match ag with
    | true=>match Nat.ble (off+sz) row.length with
     | true=>some ⟨[(x,.fp row off)],[],.agg ((partL row off sz).map .d),⟨[],[]⟩⟩
     | false=>none
    | false=>match row[off]? with
     | some u=>some ⟨[(x,.fp row off)],[],.d u,⟨[],[]⟩⟩
     | none=>none
   | none=>none
 | .store sz x y=>match asP (ev G (look σ.env) x) with
  | some (r,off)=>match asV (look σ.heap r) with
   | some (T,cs)=>match ev G (look σ.env) y with
    | some u=>match cellsOf u with
     | some vs=>match Nat.beq vs.length sz&&Nat.ble (off+sz) cs.length with
      | true=>some ⟨[(x,.ptr r off),(y,u)],[(r,.var T cs)],.undef,⟨[(r,.var T (spl cs off vs))],[]⟩⟩
      | false=>none
     | none=>none
    | none=>none
   | none=>none
  | none=>none
 | .faddr o x=>match asP (ev G (look σ.env) x) with
  | some (r,off)=>match asV (look σ.heap r) with
   | some (T,cs)=>some ⟨[(x,.ptr r off)],[(r,.var T cs)],.ptr r (off+o),⟨[],[]⟩⟩
   | none=>none
  | none=>match asF (ev G (look σ.env) x) with
   | some (row,off)=>some ⟨[(x,.fp row off)],[],.fp row (off+o),⟨[],[]⟩⟩
   | none=>match asE (ev G (look σ.env) x) with
    | some ((r,n),(i,off))=>some ⟨[(x,.eptr r n i off)],[],.eptr r n i (off+o),⟨[],[]⟩⟩
    | none=>none
 | .iaA n es x i=>match asI (ev G (look σ.env) i) with
  | some (k,iz)=>match decide (0≤iz)&&Nat.blt iz.toNat n with
   | true=>match asP (ev G (look σ.env) x) with
    | some (r,off)=>match asV (look σ.heap r) with
     | some (T,cs)=>some ⟨[(x,.ptr r off),(i,.d (.int k iz))],[(r,.var T cs)],.ptr r (off+iz.toNat*es),⟨[],[]⟩⟩
     | none=>none
    | none=>match asF (ev G (look σ.env) x) with
     | some (row,off)=>some ⟨[(x,.fp row off),(i,.d (.int k iz))],[],.fp row (off+iz.toNat*es),⟨[],[]⟩⟩
     | none=>none
   | false=>none
  | none=>none
 | .mkmap=>some ⟨[],[],.map σ.nx,⟨[(σ.nx,.mp [])],[σ.nx]⟩⟩
 | _=>none
structure OpOk (P:Program) (G:Gl) (nt:Nat) (σ:St) (io:IOp) (s:SR):Prop where
 h:∀ fr,LStp P G nt io s.xs s.rs s.v s.e fr fr
 e:Evs G (look σ.env) s.xs
 r:Rds (look σ.heap) s.rs
 n:s.e.nw=List.range' σ.nx s.e.nw.length
theorem opC_ok {σ:St} {io:IOp} {r:SR} (h:opC G σ io=some r):OpOk P G nt σ io r:=by
 cases io<;>simp only [opC] at h<;>try (cases h;done)
 case mv=>split at h<;>cases h;exact ⟨fun _=>s_mv,⟨by assumption,trivial⟩,trivial,rfl⟩
 case pick=>
  split at h
  ·split at h<;>cases h;exact ⟨fun _=>s_pickT,⟨asB_eq (by assumption),by assumption,trivial⟩,trivial,rfl⟩
  ·split at h<;>cases h;exact ⟨fun _=>s_pickF,⟨asB_eq (by assumption),by assumption,trivial⟩,trivial,rfl⟩
  ·cases h
 case bin=>
  split at h<;>try (cases h;done)
  split at h<;>try (cases h;done)
  split at h<;>try (cases h;done)
  split at h<;>cases h
  have e:=of_decide_eq_true (by assumption)
  subst e
  exact ⟨fun _=>binC_ok (by assumption),⟨asI_eq (by assumption),asI_eq (by assumption),trivial⟩,trivial,rfl⟩
 case beq=>
  split at h<;>try (cases h;done)
  split at h<;>cases h
  exact ⟨fun _=>s_beq,⟨asB_eq (by assumption),asB_eq (by assumption),trivial⟩,trivial,rfl⟩
 case un op x=>
  cases op<;>simp only [opC] at h<;>try (cases h;done)
  all_goals split at h<;>try (cases h;done)
  all_goals cases h
  ·exact ⟨fun _=>s_negW,⟨asI_eq (by assumption),trivial⟩,trivial,rfl⟩
  ·exact ⟨fun _=>s_not,⟨asB_eq (by assumption),trivial⟩,trivial,rfl⟩
 case ext=>
  split at h<;>try (cases h;done)
  split at h<;>cases h
  exact ⟨fun _=>s_ext (by assumption),⟨asT_eq (by assumption),trivial⟩,trivial,rfl⟩
 case fld ag off sz x=>
  cases ag<;>simp only [opC] at h
  ·split at h<;>try (cases h;done)
   split at h<;>cases h
   exact ⟨fun _=>s_fldC (by assumption),⟨asA_eq (by assumption),trivial⟩,trivial,rfl⟩
  ·split at h<;>cases h
   exact ⟨fun _=>s_fldA,⟨asA_eq (by assumption),trivial⟩,trivial,rfl⟩
 case len=>
  split at h<;>cases h
  ·exact ⟨fun _=>s_lenO,⟨by assumption,trivial⟩,trivial,rfl⟩
  ·exact ⟨fun _=>s_lenN,⟨by assumption,trivial⟩,trivial,rfl⟩
  ·exact ⟨fun _=>s_lenD,⟨by assumption,trivial⟩,trivial,rfl⟩
 case lenS=>
  split at h<;>cases h
  exact ⟨fun _=>s_lenS,⟨by assumption,trivial⟩,trivial,rfl⟩
 case mm=>
  split at h<;>try (cases h;done)
  split at h<;>try (cases h;done)
  split at h<;>cases h
  exact ⟨fun _=>s_mm (by assumption) (Nat.eq_of_beq_eq_true (by assumption)),Evs.zip (by assumption),trivial,rfl⟩
 case mkf=>
  split at h<;>try (cases h;done)
  split at h<;>try (cases h;done)
  split at h<;>cases h
  rename_i hb
  simp only [Bool.and_eq_true] at hb
  exact ⟨fun _=>s_mkf (Nat.eq_of_beq_eq_true hb.1) (Nat.eq_of_beq_eq_true hb.2),Evs.appd (Evs.zip (by assumption)) (Evs.zip (by assumption)),trivial,rfl⟩
 case build=>
  split at h<;>try (cases h;done)
  split at h<;>try (cases h;done)
  split at h<;>cases h
  exact ⟨fun _=>s_build (by assumption) (Nat.eq_of_beq_eq_true (by assumption)),Evs.zip (by assumption),trivial,rfl⟩
 case bsl=>
  split at h<;>try (cases h;done)
  split at h<;>try (cases h;done)
  split at h<;>try (cases h;done)
  split at h<;>cases h
  rename_i hb
  simp only [Bool.and_eq_true] at hb
  exact ⟨fun _=>s_bsl (by assumption) (by assumption) (Nat.eq_of_beq_eq_true hb.1) (Nat.eq_of_beq_eq_true hb.2.1) (Nat.le_of_ble_eq_true hb.2.2),Evs.zip (by assumption),trivial,rfl⟩
 case box=>
  split at h<;>try (cases h;done)
  split at h<;>cases h
  exact ⟨fun _=>s_box (by assumption),⟨by assumption,trivial⟩,trivial,rfl⟩
 case alloc=>cases h;exact ⟨fun _=>s_alloc,trivial,trivial,rfl⟩
 case load ag sz x=>
  split at h
  ·split at h<;>try (cases h;done)
   split at h
   ·split at h<;>cases h
    exact ⟨fun _=>s_loadA (Nat.le_of_ble_eq_true (by assumption)),⟨asP_eq (by assumption),trivial⟩,⟨asV_eq (by assumption),trivial⟩,rfl⟩
   ·split at h<;>cases h
    exact ⟨fun _=>s_loadV (by assumption),⟨asP_eq (by assumption),trivial⟩,⟨asV_eq (by assumption),trivial⟩,rfl⟩
  ·split at h<;>try (cases h;done)
   split at h
   ·split at h<;>cases h
    exact ⟨fun _=>s_loadFA (Nat.le_of_ble_eq_true (by assumption)),⟨asF_eq (by assumption),trivial⟩,trivial,rfl⟩
   ·split at h<;>cases h
    exact ⟨fun _=>s_loadF (by assumption),⟨asF_eq (by assumption),trivial⟩,trivial,rfl⟩
 case store=>
  split at h<;>try (cases h;done)
  split at h<;>try (cases h;done)
  split at h<;>try (cases h;done)
  split at h<;>try (cases h;done)
  split at h<;>cases h
  rename_i hb
  simp only [Bool.and_eq_true] at hb
  exact ⟨fun _=>s_store (by assumption) (Nat.eq_of_beq_eq_true hb.1) (Nat.le_of_ble_eq_true hb.2),⟨asP_eq (by assumption),by assumption,trivial⟩,⟨asV_eq (by assumption),trivial⟩,rfl⟩
 case faddr=>
  split at h
  ·split at h<;>cases h
   exact ⟨fun _=>s_faddrV,⟨asP_eq (by assumption),trivial⟩,⟨asV_eq (by assumption),trivial⟩,rfl⟩
  ·split at h
   ·cases h;exact ⟨fun _=>s_faddrF,⟨asF_eq (by assumption),trivial⟩,trivial,rfl⟩
   ·split at h<;>cases h
    exact ⟨fun _=>s_faddrE,⟨asE_eq (by assumption),trivial⟩,trivial,rfl⟩
 case iaA=>
  split at h<;>try (cases h;done)
  split at h<;>try (cases h;done)
  rename_i hb
  simp only [Bool.and_eq_true,decide_eq_true_eq] at hb
  split at h
  ·split at h<;>cases h
   exact ⟨fun _=>s_iaV hb.1 (Nat.le_of_ble_eq_true hb.2),⟨asP_eq (by assumption),asI_eq (by assumption),trivial⟩,⟨asV_eq (by assumption),trivial⟩,rfl⟩
  ·split at h<;>cases h
   exact ⟨fun _=>s_iaF hb.1 (Nat.le_of_ble_eq_true hb.2),⟨asF_eq (by assumption),asI_eq (by assumption),trivial⟩,trivial,rfl⟩
 case mkmap=>cases h;exact ⟨fun _=>s_mkmap,trivial,trivial,rfl⟩
def gdC (σ:St):Option (Nat×Bool)→Option Bool
 | none=>some true
 | some (t,b)=>match look σ.env t with
  | some (.d (.bool true))=>some b
  | some (.d (.bool false))=>some (!b)
  | some .undef=>some false
  | _=>none
theorem gdC_t {σ:St} {g:Option (Nat×Bool)} (h:gdC σ g=some true):Wants σ g:=by
 cases g with
 | none=>trivial
 | some p=>
  obtain ⟨t,b⟩:=p
  simp only [gdC] at h
  split at h<;>simp at h
  ·subst h;assumption
  ·subst h;assumption
theorem gdC_f {σ:St} {g:Option (Nat×Bool)} (h:gdC σ g=some false):Skips σ g:=by
 cases g with
 | none=>cases h
 | some p=>
  obtain ⟨t,b⟩:=p
  simp only [gdC] at h
  split at h<;>simp at h
  ·subst h;exact .inl (by assumption)
  ·subst h;exact .inl (by assumption)
  ·exact .inr (by assumption)
def runC (G:Gl):List IOper→St→List SD→Option (St×List SD)
 | [],σ,sds=>some (σ,sds)
 | o::l,σ,sds=>match gdC σ o.guard with
  | some true=>match opC G σ o.op with
   | some r=>runC G l (σ.app o.dst r.v r.e σ.fr) (sds++[sdOf o.guard r.xs r.rs r.e])
   | none=>none
  | some false=>runC G l (σ.put o.dst .undef) (sds++[sdSkip o.guard])
  | none=>none
theorem runC_ok {K:St→List SD→Prop} {rest:List IOper}:∀ {ops:List IOper} {σ σ':St} {sds sds':List SD},runC G ops σ sds=some (σ',sds')→RunC P G nt K rest σ' sds'→RunC P G nt K (ops++rest) σ sds
 | [],σ,σ',sds,sds',h,k=>by simp only [runC] at h;cases h;exact k
 | o::l,σ,σ',sds,sds',h,k=>by
  simp only [runC] at h
  split at h
  ·split at h
   ·obtain ⟨h1,h2,h3,h4⟩:=opC_ok (P:=P) (nt:=nt) (by assumption)
    exact .step (h1 _) (gdC_t (by assumption)) h2 h3 h4 (runC_ok h k)
   ·cases h
  ·rename_i hg
   exact .skip (gdC_f hg) (runC_ok h k)
  ·cases h
def selE (l:List (Nat×V)):List Nat→Option (List (Nat×V))
 | []=>some []
 | t::ts=>match look l t with
  | some v=>match selE l ts with | some r=>some ((t,v)::r) | none=>none
  | none=>none
def selH (l:List (Nat×Blk)):List Nat→Option (List (Nat×Blk))
 | []=>some []
 | t::ts=>match look l t with
  | some v=>match selH l ts with | some r=>some ((t,v)::r) | none=>none
  | none=>none
theorem selE_ok {l:List (Nat×V)}:∀ {ts:List Nat} {r:List (Nat×V)},selE l ts=some r→∀ t v,look r t=some v→look l t=some v
 | [],r,h,t,v,hv=>by simp only [selE] at h;cases h;cases hv
 | u::ts,r,h,t,v,hv=>by
  simp only [selE] at h
  split at h<;>try (cases h;done)
  split at h<;>cases h
  rw [look_cons] at hv
  split at hv
  ·rename_i e;subst e;cases hv;assumption
  ·exact selE_ok (by assumption) t v hv
theorem selH_ok {l:List (Nat×Blk)}:∀ {ts:List Nat} {r:List (Nat×Blk)},selH l ts=some r→∀ t v,look r t=some v→look l t=some v
 | [],r,h,t,v,hv=>by simp only [selH] at h;cases h;cases hv
 | u::ts,r,h,t,v,hv=>by
  simp only [selH] at h
  split at h<;>try (cases h;done)
  split at h<;>cases h
  rw [look_cons] at hv
  split at hv
  ·rename_i e;subst e;cases hv;assumption
  ·exact selH_ok (by assumption) t v hv
def okE (n:Nat) (dom:Nat→Bool):List (Nat×V)→Bool
 | []=>true
 | (_,v)::l=>v.okR n dom&&okE n dom l
def okH (n:Nat) (dom:Nat→Bool):List (Nat×Blk)→Bool
 | []=>true
 | (r,b)::l=>Nat.blt r n&&(b.okR n dom&&okH n dom l)
theorem okE_ok {n:Nat} {dom:Nat→Bool}:∀ {l:List (Nat×V)},okE n dom l=true→∀ t v,look l t=some v→v.okR n dom=true
 | [],_,t,v,h=>by cases h
 | (u,x)::l,h,t,v,hv=>by
  simp only [okE,Bool.and_eq_true] at h
  rw [look_cons] at hv
  split at hv
  ·cases hv;exact h.1
  ·exact okE_ok h.2 t v hv
theorem okH_ok {n:Nat} {dom:Nat→Bool}:∀ {l:List (Nat×Blk)},okH n dom l=true→∀ t v,look l t=some v→t<n∧v.okR n dom=true
 | [],_,t,v,h=>by cases h
 | (u,x)::l,h,t,v,hv=>by
  simp only [okH,Bool.and_eq_true] at h
  rw [look_cons] at hv
  split at hv
  ·rename_i e;subst e;cases hv;exact ⟨Nat.le_of_ble_eq_true h.1,h.2.1⟩
  ·exact okH_ok h.2.2 t v hv
def lentOk (base:Nat) (h:List (Nat×Blk)):List (Nat×Blk)→Bool
 | []=>true
 | (r,_)::l=>(Nat.ble base r||(look h r).isSome)&&lentOk base h l
theorem lentOk_ok {base:Nat} {h:List (Nat×Blk)}:∀ {l:List (Nat×Blk)},lentOk base h l=true→∀ r b,r<base→look l r=some b→(look h r).isSome=true
 | [],_,r,b,_,hb=>by cases hb
 | (u,x)::l,hl,r,b,hr,hb=>by
  simp only [lentOk,Bool.and_eq_true,Bool.or_eq_true] at hl
  rw [look_cons] at hb
  split at hb
  ·rename_i e;subst e
   rcases hl.1 with h1 | h1
   ·have:=Nat.le_of_ble_eq_true h1;omega
   ·exact h1
  ·exact lentOk_ok hl.2 r b hr hb
def dfsOk (h:List (Nat×Blk)):List Nat→Bool
 | []=>true
 | r::l=>(match look h r with | some .dm=>true | _=>false)&&dfsOk h l
theorem dfsOk_ok {h:List (Nat×Blk)}:∀ {l:List Nat},dfsOk h l=true→∀ r∈l,look h r=some .dm
 | [],_,r,hr=>by cases hr
 | u::l,hl,r,hr=>by
  simp only [dfsOk,Bool.and_eq_true] at hl
  rcases List.mem_cons.1 hr with rfl | hr
  ·have:=hl.1;split at this<;>simp_all
  ·exact dfsOk_ok hl.2 r hr
def keepS (σ:St) (ts rs:List Nat) (nx:Nat):Option St:=
 match selE σ.env ts with
 | some e=>match selH σ.heap rs with
  | some h=>match Nat.ble nx σ.nx&&(Nat.ble σ.base nx&&(okE nx (fun r=>(look h r).isSome) e&&(okH nx (fun r=>(look h r).isSome) h&&(lentOk σ.base h σ.heap&&dfsOk h σ.dfs)))) with
   | true=>some ⟨e,h,nx,σ.fr,σ.dfs,σ.base⟩
   | false=>none
  | none=>none
 | none=>none
theorem keepS_ok {σ σ':St} {ts rs:List Nat} {nx:Nat} (h:keepS σ ts rs nx=some σ'):σ'.Sub σ:=by
 unfold keepS at h
 split at h<;>try (cases h;done)
 split at h<;>try (cases h;done)
 split at h<;>cases h
 rename_i hb
 simp only [Bool.and_eq_true] at hb
 obtain ⟨h1,h2,h3,h4,h5,h6⟩:=hb
 refine ⟨Nat.le_of_ble_eq_true h1,fun t v hv=>⟨selE_ok (by assumption) t v hv,okE_ok h3 t v hv⟩,fun r b hr=>⟨selH_ok (by assumption) r b hr,okH_ok h4 r b hr⟩,rfl,rfl,fun r hr=>dfsOk_ok h6 r hr,rfl,Nat.le_of_ble_eq_true h2,fun r b hr hb=>?_⟩
 have h7:=lentOk_ok h5 r b hr hb
 obtain ⟨b',h8⟩:=Option.isSome_iff_exists.1 h7
 have h9:=selH_ok (l:=σ.heap) (by assumption) r b' h8
 rw [hb] at h9;cases h9;exact h8
end
end Go.Abs
namespace Go.Abs
structure Ge (σa σ:St):Prop where
 env:∀ t v,look σ.env t=some v→look σa.env t=some v
 heap:look σa.heap=look σ.heap
 nx:σa.nx=σ.nx
 fr:σa.fr=σ.fr
 dfs:σa.dfs=σ.dfs
 base:σa.base=σ.base
theorem Ge.refl (σ:St):Ge σ σ:=⟨fun _ _ h=>h,rfl,rfl,rfl,rfl,rfl⟩
theorem Ge.trans {a b c:St} (h:Ge a b) (k:Ge b c):Ge a c:=
 ⟨fun t v hv=>h.env t v (k.env t v hv),h.heap.trans k.heap,h.nx.trans k.nx,h.fr.trans k.fr,h.dfs.trans k.dfs,h.base.trans k.base⟩
section
variable {P:Program} {nt:Nat} {G:Gl} {F:Fence}
theorem Ge.ev {σa σ:St} (h:Ge σa σ) {x:Opd} {v:V} (hv:ev G (look σ.env) x=some v):ev G (look σa.env) x=some v:=by
 cases x with
 | tmp t=>exact h.env t v hv
 | cst u=>exact hv
 | glob g=>exact hv
theorem Ge.evs {σa σ:St} (h:Ge σa σ):∀ {xs:List (Opd×V)},Evs G (look σ.env) xs→Evs G (look σa.env) xs
 | [],_=>trivial
 | (x,v)::l,⟨h1,h2⟩=>⟨h.ev h1,h.evs h2⟩
theorem look_cons_ge {a b:List (Nat×V)} (h:∀ t v,look b t=some v→look a t=some v) (k:Nat) (x:V):∀ t v,look ((k,x)::b) t=some v→look ((k,x)::a) t=some v:=fun t v hv=>by
 rw [look_cons] at hv ⊢
 split at hv
 ·rename_i e;rw [if_pos e];exact hv
 ·rename_i e;rw [if_neg e];exact h t v hv
theorem Ge.app {σa σ:St} (h:Ge σa σ) (d:Option Nat) (v:V) (e:Eff) (fr:Fr):Ge (σa.app d v e fr) (σ.app d v e fr):=by
 have hh:look (e.st++σa.heap)=look (e.st++σ.heap):=by rw [look_app,look_app,h.heap]
 cases d with
 | none=>exact ⟨h.env,hh,by simp only [St.app,h.nx],rfl,h.dfs,h.base⟩
 | some t=>exact ⟨look_cons_ge h.env t v,hh,by simp only [St.app,h.nx],rfl,h.dfs,h.base⟩
theorem Ge.put {σa σ:St} (h:Ge σa σ) (d:Option Nat) (v:V):Ge (σa.put d v) (σ.put d v):=by
 cases d with
 | none=>exact h
 | some t=>exact ⟨look_cons_ge h.env t v,h.heap,h.nx,h.fr,h.dfs,h.base⟩
theorem Ge.pt {σa σ:St} (h:Ge σa σ) (t:Nat) (v:V):Ge (σa.pt t v) (σ.pt t v):=⟨look_cons_ge h.env t v,h.heap,h.nx,h.fr,h.dfs,h.base⟩
theorem Ge.wants {σa σ:St} (h:Ge σa σ) {g:Option (Nat×Bool)} (hg:Wants σ g):Wants σa g:=by
 cases g with
 | none=>trivial
 | some p=>obtain ⟨t,b⟩:=p;exact h.env _ _ hg
theorem Ge.skips {σa σ:St} (h:Ge σa σ) {g:Option (Nat×Bool)} (hg:Skips σ g):Skips σa g:=by
 cases g with
 | none=>exact hg
 | some p=>obtain ⟨t,b⟩:=p;exact Or.imp (h.env _ _) (h.env _ _) hg
theorem RelS.ge {σa σ:St} (h:Ge σa σ) {c:Cx} {a:Act} {w:World} (hR:RelS G nt c σa a w):RelS G nt c σ a w:=by
 obtain ⟨⟨h1,h2,h3⟩,h4,h5⟩:=hR
 refine ⟨⟨h1,fun t v hv=>?_,?_⟩,?_,?_⟩
 ·obtain ⟨cv,e1,e2⟩:=h2 t v (h.env t v hv)
  exact ⟨cv,e1,by rw [← h.heap,← h.nx];exact e2⟩
 ·rw [← h.heap,← h.nx,← h.fr];exact h3
 ·rw [← h.heap,← h.dfs];exact h4
 ·rw [← h.base,← h.nx];exact h5
theorem Went.ge {σa σ σ0:St} (h:Ge σa σ) {c0 c:Cx} {w0 w:World} (hW:Went c0 σ0 w0 c σa w):Went c0 σ0 w0 c σ w:=
 ⟨by rw [← h.heap];exact hW.x,by rw [← h.heap];exact hW.b,h.base.symm.trans hW.base⟩
def Kc (K:St→List SD→Prop):St→List SD→Prop:=fun σ s=>∃ σx,Ge σ σx∧K σx s
theorem RunC.ge {K:St→List SD→Prop} {rest:List IOper} {σ:St} {s:List SD} (h:RunC P G nt (Kc K) rest σ s):∀ {σa:St},Ge σa σ→RunC P G nt (Kc K) rest σa s:=by
 induction h with
 | nil h=>intro σa hg;obtain ⟨σx,h1,h2⟩:=h;exact .nil ⟨σx,hg.trans h1,h2⟩
 | step h hg hE hH hn k ih=>
  intro σa ha
  refine .step (by rw [ha.fr];exact h) (ha.wants hg) (ha.evs hE) (by rw [ha.heap];exact hH) (by rw [ha.nx];exact hn) ?_
  rw [ha.fr]
  exact ih (ha.app _ _ _ _)
 | stepF h hg hE hH hn k ih=>
  intro σa ha
  exact .stepF (by rw [ha.fr];exact h) (ha.wants hg) (ha.evs hE) (by rw [ha.heap];exact hH) (by rw [ha.nx];exact hn) (ih (ha.app _ _ _ _))
 | skip hg k ih=>intro σa ha;exact .skip (ha.skips hg) (ih (ha.put _ _))
 | @know σ sds rest t v h k ih=>
  intro σa ha
  exact .know (ha.env _ _ h) (ih (ha.pt t v))
def pureOp:IOp→Bool
 | .box _ _=>false
 | .alloc _ _=>false
 | .store _ _ _=>false
 | .bsl _ _ _ _ _=>false
 | .mkmap=>false
 | _=>true
def purOps:List IOper→Bool
 | []=>true
 | o::l=>pureOp o.op&&purOps l
theorem opC_pure {σ:St} {io:IOp} {r:SR} (h:opC G σ io=some r) (hp:pureOp io=true):r.e=⟨[],[]⟩:=by
 cases io<;>simp only [pureOp] at hp<;>try (cases hp;done)
 all_goals simp only [opC] at h
 all_goals try (cases h;done)
 case un op x=>
  cases op<;>simp only [opC] at h<;>try (cases h;done)
  all_goals (repeat' split at h)<;>cases h<;>rfl
 case fld ag off sz x=>cases ag<;>simp only [opC] at h<;>(repeat' split at h)<;>cases h<;>rfl
 all_goals (repeat' split at h)<;>cases h<;>rfl
def grpN (t:Nat):List IOper→Nat→Option Nat
 | [],_=>none
 | o::l,n=>match o.op with
  | .pick (.tmp t') _ _=>bif Nat.beq t t' then some (n+1) else grpN t l (n+1)
  | _=>grpN t l (n+1)
def comb (b:Bool) (p:Bool):Option V→Option V→Option V
 | vT,vF=>match b with
  | true=>match asB vF with
   | some false=>match asB vT with | some x=>some (.d (.bool (p&&x))) | none=>none
   | _=>none
  | false=>match asB vT with
   | some true=>match asB vF with | some y=>some (.d (.bool (p||y))) | none=>none
   | _=>none
theorem comb_T {b:Bool} {vT vF:Option V} {v:V} (h:comb b true vT vF=some v):vT=some v:=by
 cases b<;>simp only [comb] at h
 ·split at h<;>try (cases h;done)
  rename_i hx
  split at h<;>cases h
  rw [asB_eq hx];simp
 ·split at h<;>try (cases h;done)
  split at h<;>cases h
  rename_i x hx;rw [asB_eq hx];simp
theorem comb_F {b:Bool} {vT vF:Option V} {v:V} (h:comb b false vT vF=some v):vF=some v:=by
 cases b<;>simp only [comb] at h
 ·split at h<;>try (cases h;done)
  split at h<;>cases h
  rename_i y hy;rw [asB_eq hy];simp
 ·split at h<;>try (cases h;done)
  rename_i hx
  split at h<;>cases h
  rw [asB_eq hx];simp
structure SD.Le (a b:SD):Prop where
 rd:∀ x∈a.rd,x∈b.rd
 rs:∀ x∈a.rs,x∈b.rs
 st:∀ x∈a.st,x∈b.st
 nw:∀ x∈a.nw,x∈b.nw
 fx:a.fx=true→b.fx=true
def SdsLe:List SD→List SD→Prop
 | [],[]=>True
 | a::as,b::bs=>a.Le b∧SdsLe as bs
 | _,_=>False
theorem SD.Le.refl (a:SD):a.Le a:=⟨fun _ h=>h,fun _ h=>h,fun _ h=>h,fun _ h=>h,fun h=>h⟩
theorem SdsLe.app:∀ {a a' b b':List SD},SdsLe a a'→SdsLe b b'→SdsLe (a++b) (a'++b')
 | [],[],_,_,_,h=>h
 | x::xs,y::ys,_,_,⟨h1,h2⟩,h=>⟨h1,SdsLe.app h2 h⟩
 | [],_::_,_,_,h,_=>h.elim
 | _::_,[],_,_,h,_=>h.elim
def sdJ (a b:SD):SD:=⟨a.rd++b.rd,a.rs++b.rs,a.st++b.st,a.nw++b.nw,a.fx||b.fx⟩
def joinS:List SD→List SD→List SD
 | a::as,b::bs=>sdJ a b::joinS as bs
 | _,_=>[]
theorem joinS_len:∀ {a b:List SD},a.length=b.length→(joinS a b).length=a.length
 | [],[],_=>rfl
 | _::as,_::bs,h=>by simp only [joinS,List.length_cons] at h ⊢;rw [joinS_len (by omega)]
 | [],_::_,h=>by simp at h
 | _::_,[],h=>by simp at h
theorem SdsLe.joinL:∀ {s a b:List SD},SdsLe s a→a.length=b.length→SdsLe s (joinS a b)
 | [],[],[],_,_=>trivial
 | _::_,_::_,_::_,⟨h1,h2⟩,hl=>⟨⟨fun x h=>List.mem_append.2 (.inl (h1.rd x h)),fun x h=>List.mem_append.2 (.inl (h1.rs x h)),fun x h=>List.mem_append.2 (.inl (h1.st x h)),fun x h=>List.mem_append.2 (.inl (h1.nw x h)),fun h=>by simp [sdJ,h1.fx h]⟩,SdsLe.joinL h2 (by simpa using hl)⟩
 | [],_::_,_,h,_=>h.elim
 | _::_,[],_,h,_=>h.elim
 | [],[],_::_,_,hl=>by simp at hl
 | _::_,_::_,[],_,hl=>by simp at hl
theorem SdsLe.joinR:∀ {s a b:List SD},SdsLe s b→a.length=b.length→SdsLe s (joinS a b)
 | [],[],[],_,_=>trivial
 | _::_,_::_,_::_,⟨h1,h2⟩,hl=>⟨⟨fun x h=>List.mem_append.2 (.inr (h1.rd x h)),fun x h=>List.mem_append.2 (.inr (h1.rs x h)),fun x h=>List.mem_append.2 (.inr (h1.st x h)),fun x h=>List.mem_append.2 (.inr (h1.nw x h)),fun h=>by simp [sdJ,h1.fx h]⟩,SdsLe.joinR h2 (by simpa using hl)⟩
 | [],_,_::_,h,_=>h.elim
 | _::_,_,[],h,_=>h.elim
 | [],_::_,[],_,hl=>by simp at hl
 | _::_,[],_::_,_,hl=>by simp at hl
theorem disj_of:∀ {xs ys:List Nat},(∀ x∈xs,x ∉ ys)→disj xs ys=true
 | [],_,_=>rfl
 | x::xs,ys,h=>by
  simp only [disj,Bool.and_eq_true,Bool.not_eq_true']
  refine ⟨?_,disj_of fun z hz=>h z (List.mem_cons_of_mem _ hz)⟩
  cases hc:ys.contains x with
  | false=>rfl
  | true=>exact absurd (List.contains_iff_mem.1 hc) (h x (by simp))
theorem disj_mono {xs ys xs' ys':List Nat} (h:disj xs ys=true) (hx:∀ x∈xs',x∈xs) (hy:∀ y∈ys',y∈ys):disj xs' ys'=true:=disj_of fun x h1 h2=>disj_ok h x (hx x h1) (hy x h2)
theorem okFrom_mono {i:Nat} {o:IOper} {s u:SD} (hs:s.Le u):∀ {os:List IOper} {ss us:List SD} {ps:List (List Nat)},SdsLe ss us→okFrom i (ddOf o u) (ddOfs os us) ps=true→okFrom i (ddOf o s) (ddOfs os ss) ps=true
 | [],ss,us,ps,_,_=>by simp [ddOfs,okFrom]
 | o'::os,[],us,ps,_,_=>by simp [ddOfs,okFrom]
 | o'::os,s'::ss,[],ps,h,_=>h.elim
 | o'::os,s'::ss,u'::us,[],_,h=>by simp [ddOfs,okFrom] at h
 | o'::os,s'::ss,u'::us,p::ps,⟨h1,h2⟩,h=>by
  simp only [ddOfs,okFrom,Bool.and_eq_true,Bool.or_eq_true,Bool.not_eq_true'] at h ⊢
  obtain ⟨⟨h3,h4⟩,h5⟩:=h
  refine ⟨⟨h3.imp id (fun ⟨⟨a1,a2⟩,a3⟩=>⟨⟨?_,?_⟩,?_⟩),disj_mono h4 hs.nw h1.nw⟩,okFrom_mono hs h2 h5⟩
  ·cases hf:s.fx with
   | false=>exact hf
   | true=>have:=hs.fx hf;simp only [ddOf] at a1;rw [this] at a1;cases a1
  ·cases hf:s'.fx with
   | false=>exact hf
   | true=>have:=h1.fx hf;simp only [ddOf] at a2;rw [this] at a2;cases a2
  ·simp only [indep,ddOf,Bool.and_eq_true] at a3 ⊢
   obtain ⟨⟨⟨⟨⟨b1,b2⟩,b3⟩,b4⟩,b5⟩,b6⟩:=a3
   exact ⟨⟨⟨⟨⟨disj_mono b1 (fun _ h=>h) h1.rd,disj_mono b2 (fun _ h=>h) hs.rd⟩,b3⟩,disj_mono b4 hs.st h1.rs⟩,disj_mono b5 h1.st hs.rs⟩,disj_mono b6 hs.st h1.st⟩
theorem okAll_mono:∀ {os:List IOper} {i:Nat} {ss us:List SD} {ps:List (List Nat)},SdsLe ss us→okAll i (ddOfs os us) ps=true→okAll i (ddOfs os ss) ps=true
 | [],i,ss,us,ps,_,_=>by simp [ddOfs,okAll]
 | o::os,i,[],us,ps,_,_=>by simp [ddOfs,okAll]
 | o::os,i,s::ss,[],ps,h,_=>h.elim
 | o::os,i,s::ss,u::us,[],_,h=>by simp [ddOfs,okAll] at h
 | o::os,i,s::ss,u::us,p::ps,⟨h1,h2⟩,h=>by
  simp only [ddOfs,okAll,Bool.and_eq_true] at h ⊢
  exact ⟨okFrom_mono h1 h2 h.1,okAll_mono h2 h.2⟩
theorem ddOfs_aft:∀ {os:List IOper} {ss us:List SD},SdsLe ss us→(ddOfs os ss).map (·.aft)=(ddOfs os us).map (·.aft)
 | [],ss,us,_=>by simp [ddOfs]
 | o::os,[],[],_=>rfl
 | o::os,s::ss,u::us,⟨_,h⟩=>by simp only [ddOfs,List.map_cons,ddOfs_aft h];rfl
 | o::os,[],_::_,h=>h.elim
 | o::os,_::_,[],h=>h.elim
theorem okD_mono {os:List IOper} {ss us:List SD} (h:SdsLe ss us) (hk:okD os us=true):okD os ss=true:=by
 simp only [okD,Bool.and_eq_true] at hk ⊢
 rw [ddOfs_aft h]
 exact ⟨hk.1,okAll_mono h hk.2⟩
def lastD:List IOper→Option Nat
 | []=>none
 | [o]=>o.dst
 | _::l=>lastD l
def unkC (σ:St) (us:List Nat):Option (Nat×Bool)→Option (Nat×Bool)
 | none=>none
 | some (t,b)=>match hasN t us with
  | true=>match look σ.env t with
   | some .undef=>none
   | _=>some (t,b)
  | false=>none
def rmN (t:Nat) (us:List Nat):List Nat:=us.filter (fun x=>!(Nat.beq x t))
def runW (G:Gl):Nat→List Nat→List IOper→St→Option (St×List SD)
 | 0,_,_,_=>none
 | _+1,_,[],σ=>some (σ,[])
 | f+1,us,o::l,σ=>match unkC σ us o.guard with
  | none=>match gdC σ o.guard with
   | some true=>match opC G σ o.op with
    | some r=>match runW G f us l (σ.app o.dst r.v r.e σ.fr) with
     | some (σ',L)=>some (σ',sdOf o.guard r.xs r.rs r.e::L)
     | none=>none
    | none=>none
   | some false=>match runW G f us l (σ.put o.dst .undef) with
    | some (σ',L)=>some (σ',sdSkip o.guard::L)
    | none=>none
   | none=>none
  | some (t,b)=>match asB (look σ.env t) with
    | none=>none
    | some p=>match grpN t (o::l) 0 with
     | none=>none
     | some n=>match lastD ((o::l).take n) with
      | none=>none
      | some t0=>match purOps ((o::l).take n) with
       | false=>none
       | true=>match runW G f (rmN t us) ((o::l).take n) (σ.pt t (.d (.bool true))) with
        | none=>none
        | some (σ1,L1)=>match runW G f (rmN t us) ((o::l).take n) (σ.pt t (.d (.bool false))) with
         | none=>none
         | some (σ2,L2)=>match comb b p (look σ1.env t0) (look σ2.env t0) with
          | none=>none
          | some v0=>match runW G f us ((o::l).drop n) { env:=(t0,v0)::dropE (dsts ((o::l).take n)) σ.env,heap:=σ.heap,nx:=σ.nx,fr:=σ.fr,dfs:=σ.dfs,base:=σ.base } with
           | none=>none
           | some (σ',L)=>some (σ',joinS L1 L2++L)
structure Keeps (ops:List IOper) (σ σ':St):Prop where
 env:∀ t,(dsts ops).contains t=false→look σ'.env t=look σ.env t
 fr:σ'.fr=σ.fr
 dfs:σ'.dfs=σ.dfs
 base:σ'.base=σ.base
 heap:purOps ops=true→look σ'.heap=look σ.heap∧σ'.nx=σ.nx
theorem dsts_cons {o:IOper} {l:List IOper} {t:Nat} (h:(dsts (o::l)).contains t=false):(dsts l).contains t=false∧o.dst≠some t:=by
 simp only [dsts] at h
 split at h
 ·rename_i u hu
  simp only [List.contains_cons,Bool.or_eq_false_iff] at h
  refine ⟨h.2,fun e=>?_⟩
  rw [hu] at e;cases e
  simp at h
 ·rename_i hu
  exact ⟨h,by rw [hu];simp⟩
theorem dsts_app:∀ (l m:List IOper),dsts (l++m)=dsts l++dsts m
 | [],m=>rfl
 | o::l,m=>by
  simp only [List.cons_append,dsts]
  split<;>simp [dsts_app l m]
theorem purOps_app:∀ (l m:List IOper),purOps (l++m)=(purOps l&&purOps m)
 | [],m=>rfl
 | o::l,m=>by simp only [List.cons_append,purOps,purOps_app l m,Bool.and_assoc]
theorem app_env {σ:St} {d:Option Nat} {v:V} {e:Eff} {fr:Fr} {t:Nat} (h:d≠some t):look (σ.app d v e fr).env t=look σ.env t:=by
 cases d with
 | none=>rfl
 | some u=>simp only [St.app];rw [look_cons,if_neg (fun e=>h (by rw [e]))]
theorem put_env {σ:St} {d:Option Nat} {v:V} {t:Nat} (h:d≠some t):look (σ.put d v).env t=look σ.env t:=by
 cases d with
 | none=>rfl
 | some u=>simp only [St.put];rw [look_cons,if_neg (fun e=>h (by rw [e]))]
theorem app_dfs {σ:St} {d:Option Nat} {v:V} {e:Eff} {fr:Fr}:(σ.app d v e fr).dfs=σ.dfs∧(σ.app d v e fr).base=σ.base∧(σ.app d v e fr).fr=fr:=by cases d<;>exact ⟨rfl,rfl,rfl⟩
theorem put_dfs {σ:St} {d:Option Nat} {v:V}:(σ.put d v).dfs=σ.dfs∧(σ.put d v).base=σ.base∧(σ.put d v).fr=σ.fr∧(σ.put d v).heap=σ.heap∧(σ.put d v).nx=σ.nx:=by cases d<;>exact ⟨rfl,rfl,rfl,rfl,rfl⟩
theorem app_pure {σ:St} {d:Option Nat} {v:V} {fr:Fr}:(σ.app d v ⟨[],[]⟩ fr).heap=σ.heap∧(σ.app d v ⟨[],[]⟩ fr).nx=σ.nx:=by cases d<;>exact ⟨rfl,rfl⟩
theorem look_dropE' (ds:List Nat):∀ (l:List (Nat×V)) (t:Nat),ds.contains t=false→look (dropE ds l) t=look l t
 | [],t,_=>rfl
 | (u,x)::l,t,h=>by
  simp only [dropE]
  cases hc:ds.contains u with
  | true=>
   simp only [cond_true]
   rw [look_cons,if_neg (fun e=>by subst e;rw [h] at hc;cases hc)]
   exact look_dropE' ds l t h
  | false=>
   simp only [cond_false]
   rw [look_cons,look_cons]
   split
   ·rfl
   ·exact look_dropE' ds l t h
theorem runW_keeps:∀ {f:Nat} {us:List Nat} {ops:List IOper} {σ σ':St} {L:List SD},runW G f us ops σ=some (σ',L)→Keeps ops σ σ'
 | 0,us,ops,σ,σ',L,h=>by simp only [runW] at h;cases h
 | f+1,us,[],σ,σ',L,h=>by simp only [runW] at h;cases h;exact ⟨fun _ _=>rfl,rfl,rfl,rfl,fun _=>⟨rfl,rfl⟩⟩
 | f+1,us,o::l,σ,σ',L,h=>by
  simp only [runW] at h
  split at h
  ·split at h
   ·split at h<;>try (cases h;done)
    rename_i r hr
    split at h<;>cases h
    rename_i hw
    have ih:=runW_keeps hw
    refine ⟨fun t ht=>?_,by rw [ih.fr,app_dfs.2.2],by rw [ih.dfs,app_dfs.1],by rw [ih.base,app_dfs.2.1],fun hp=>?_⟩
    ·obtain ⟨h1,h2⟩:=dsts_cons ht
     rw [ih.env t h1,app_env h2]
    ·simp only [purOps,Bool.and_eq_true] at hp
     obtain ⟨h3,h4⟩:=ih.heap hp.2
     rw [opC_pure hr hp.1] at h3 h4
     exact ⟨h3.trans (by rw [app_pure.1]),h4.trans app_pure.2⟩
   ·split at h<;>cases h
    rename_i hw
    have ih:=runW_keeps hw
    refine ⟨fun t ht=>?_,by rw [ih.fr,put_dfs.2.2.1],by rw [ih.dfs,put_dfs.1],by rw [ih.base,put_dfs.2.1],fun hp=>?_⟩
    ·obtain ⟨h1,h2⟩:=dsts_cons ht
     rw [ih.env t h1,put_env h2]
    ·simp only [purOps,Bool.and_eq_true] at hp
     obtain ⟨h3,h4⟩:=ih.heap hp.2
     exact ⟨h3.trans (by rw [put_dfs.2.2.2.1]),h4.trans put_dfs.2.2.2.2⟩
   ·cases h
  ·split at h<;>try (cases h;done)
   split at h<;>try (cases h;done)
   rename_i n hn
   split at h<;>try (cases h;done)
   rename_i t0 ht0
   split at h<;>try (cases h;done)
   rename_i hpur
   split at h<;>try (cases h;done)
   rename_i hw1
   split at h<;>try (cases h;done)
   rename_i hw2
   split at h<;>try (cases h;done)
   split at h<;>cases h
   rename_i hw
   have ih:=runW_keeps hw
   have e:o::l=(o::l).take n++(o::l).drop n:=(List.take_append_drop _ _).symm
   have hd0:∀ {ops:List IOper} {t0:Nat},lastD ops=some t0→(dsts ops).contains t0=true:=by
    intro ops
    induction ops with
    | nil=>intro t0 h;cases h
    | cons x xs ihx=>
     intro t0 h
     cases xs with
     | nil=>simp only [lastD] at h;simp [dsts,h]
     | cons y ys=>
      simp only [lastD] at h
      have:=ihx h
      rw [dsts]
      split
      ·rw [List.contains_cons,this,Bool.or_true]
      ·exact this
   refine ⟨fun t ht=>?_,ih.fr,ih.dfs,ih.base,fun hp=>?_⟩
   ·rw [e,dsts_app,List.contains_append,Bool.or_eq_false_iff] at ht
    rw [ih.env t ht.2]
    show look ((t0,_)::dropE _ σ.env) t=_
    rw [look_cons,if_neg (fun e=>by subst e;rw [hd0 ht0] at ht;cases ht.1),look_dropE' _ _ _ ht.1]
   ·rw [e,purOps_app,Bool.and_eq_true] at hp
    exact ih.heap hp.2
theorem runW_len:∀ {f:Nat} {us:List Nat} {ops:List IOper} {σ σ':St} {L:List SD},runW G f us ops σ=some (σ',L)→L.length=ops.length
 | 0,us,ops,σ,σ',L,h=>by simp only [runW] at h;cases h
 | f+1,us,[],σ,σ',L,h=>by simp only [runW] at h;cases h;rfl
 | f+1,us,o::l,σ,σ',L,h=>by
  simp only [runW] at h
  split at h
  ·split at h
   ·split at h<;>try (cases h;done)
    split at h<;>cases h
    rename_i hw
    simp [runW_len hw]
   ·split at h<;>cases h
    rename_i hw
    simp [runW_len hw]
   ·cases h
  ·split at h<;>try (cases h;done)
   split at h<;>try (cases h;done)
   rename_i n hn
   split at h<;>try (cases h;done)
   split at h<;>try (cases h;done)
   split at h<;>try (cases h;done)
   rename_i hw1
   split at h<;>try (cases h;done)
   rename_i hw2
   split at h<;>try (cases h;done)
   split at h<;>cases h
   rename_i hw
   have e1:=runW_len hw1
   have e2:=runW_len hw2
   have e3:=runW_len hw
   rw [List.length_append,joinS_len (by omega),e1,e3,← List.length_append,List.take_append_drop]
theorem runW_ok {K:St→List SD→Prop} {rest:List IOper}:∀ {f:Nat} {us:List Nat} {ops:List IOper} {σ σ':St} {L:List SD},runW G f us ops σ=some (σ',L)→∀ {σa:St} {sds:List SD},Ge σa σ →
  (∀ σb s,Ge σb σ'→SdsLe s L→RunC P G nt K rest σb (sds++s))→RunC P G nt K (ops++rest) σa sds
 | 0,us,ops,σ,σ',L,h=>by simp only [runW] at h;cases h
 | f+1,us,[],σ,σ',L,h=>by
  simp only [runW] at h;cases h
  intro hg k
  have:=k _ [] hg trivial
  rwa [List.append_nil] at this
 | f+1,us,o::l,σ,σ',L,h=>by
  intro hg k
  rename_i σa sds
  simp only [runW] at h
  split at h
  ·split at h
   ·split at h<;>try (cases h;done)
    rename_i r hr
    split at h<;>cases h
    rename_i hw
    obtain ⟨h1,h2,h3,h4⟩:=opC_ok (P:=P) (nt:=nt) hr
    refine .step (h1 _) (hg.wants (gdC_t (by assumption))) (hg.evs h2) (by rw [hg.heap];exact h3) (by rw [hg.nx];exact h4) ?_
    rw [hg.fr]
    refine runW_ok hw (hg.app _ _ _ _) fun σb s hb hs=>?_
    rw [List.append_assoc]
    exact k σb _ hb ⟨.refl _,hs⟩
   ·rename_i hgd
    split at h<;>cases h
    rename_i hw
    refine .skip (hg.skips (gdC_f hgd)) ?_
    refine runW_ok hw (hg.put _ _) fun σb s hb hs=>?_
    rw [List.append_assoc]
    exact k σb _ hb ⟨.refl _,hs⟩
   ·cases h
  ·rename_i t b hob
   split at h<;>try (cases h;done)
   rename_i p hp
   split at h<;>try (cases h;done)
   rename_i n hn
   split at h<;>try (cases h;done)
   rename_i t0 ht0
   split at h<;>try (cases h;done)
   rename_i hpur
   split at h<;>try (cases h;done)
   rename_i σ1 L1 hw1
   split at h<;>try (cases h;done)
   rename_i σ2 L2 hw2
   split at h<;>try (cases h;done)
   rename_i v0 hv0
   split at h<;>cases h
   rename_i L3 hw
   have e:o::l=(o::l).take n++(o::l).drop n:=(List.take_append_drop _ _).symm
   have hap:(o::l)++rest=(o::l).take n++((o::l).drop n++rest):=by rw [← List.append_assoc,← e]
   rw [hap]
   have hlp:=asB_eq hp
   -- one way
   have way:∀ (q:Bool) (σq:St) (Lq:List SD),p=q→runW G f (rmN t us) ((o::l).take n) (σ.pt t (.d (.bool q)))=some (σq,Lq)→look σq.env t0=some v0→(∀ s,SdsLe s Lq→SdsLe s (joinS L1 L2)) →
     RunC P G nt K ((o::l).take n++((o::l).drop n++rest)) (σa.pt t (.d (.bool q))) sds:=by
    intro q σq Lq hpq hwq hvq hL
    refine runW_ok hwq (hg.pt t _) fun σb s hb hs=>?_
    have hk:=runW_keeps hwq
    obtain ⟨k1,k2⟩:=hk.heap hpur
    refine runW_ok hw ⟨fun t' v' hv'=>?_,hb.heap.trans k1,hb.nx.trans k2,hb.fr.trans hk.fr,hb.dfs.trans hk.dfs,hb.base.trans hk.base⟩ fun σc s' hc hs'=>?_
    ·simp only at hv'
     rw [look_cons] at hv'
     split at hv'
     ·rename_i e;subst e;cases hv';exact hb.env _ _ hvq
     ·obtain ⟨d1,d2⟩:=look_dropE _ _ t' v' hv'
      refine hb.env _ _ ?_
      rw [hk.env t' d1]
      show look ((t,_)::σ.env) t'=_
      rw [look_cons]
      split
      ·rename_i e;subst e;rw [hlp] at d2;rw [← hpq];exact d2
      ·exact d2
    ·rw [List.append_assoc]
     exact k σc _ hc (SdsLe.app (hL s hs) hs')
   refine r_split t (hg.env _ _ hlp) (fun hp1=>?_) (fun hp1=>?_)
   ·subst hp1
    exact way true σ1 L1 rfl hw1 (comb_T hv0) (fun s hs=>hs.joinL (by rw [runW_len hw1,runW_len hw2]))
   ·subst hp1
    exact way false σ2 L2 rfl hw2 (comb_F hv0) (fun s hs=>hs.joinR (by rw [runW_len hw1,runW_len hw2]))
end
end Go.Abs
namespace Go.Abs
section
variable {P:Program} {nt:Nat} {G:Gl} {F:Fence}
theorem RunC.mono {K K':St→List SD→Prop} {ops:List IOper} {σ:St} {s:List SD} (h:RunC P G nt K ops σ s) (hk:∀ σ s,K σ s→K' σ s):RunC P G nt K' ops σ s:=by
 induction h with
 | nil h=>exact .nil (hk _ _ h)
 | step h hg hE hH hn k ih=>exact .step h hg hE hH hn ih
 | stepF h hg hE hH hn k ih=>exact .stepF h hg hE hH hn ih
 | skip hg k ih=>exact .skip hg ih
 | know h k ih=>exact .know h ih
def keysE (l:List (Nat×V)):List Nat:=l.map (·.1)
def segB (G:Gl) (us:List Nat) (d:Bool) (ops:List IOper) (σ:St) (ts rs:List Nat) (nx:Nat):Option St:=
 match runW G 400 us ops σ with
 | some (σ',L)=>match d with
  | false=>keepS σ' ts rs nx
  | true=>match okD ops L with
   | true=>keepS σ' ts rs nx
   | false=>none
 | none=>none
theorem run_ge {us:List Nat} {ops:List IOper} {σ σ':St} {L:List SD} (h:runW G 400 us ops σ=some (σ',L)):RunC P G nt (fun σb s=>Ge σb σ'∧SdsLe s L) ops σ []:=by
 have:=runW_ok (P:=P) (nt:=nt) (K:=fun σb s=>Ge σb σ'∧SdsLe s L) (rest:=[]) h (Ge.refl σ) (sds:=[]) (fun σb s hb hs=>.nil ⟨hb,hs⟩)
 rwa [List.append_nil] at this
def Qw (Q:Post):Post:=fun e σ=>∃ σx σ1,Ge σ σx∧σ1.Sub σx∧Q e σ1
theorem AW.qw {ic:ICode} {Q:Post} {σ:St} (h:AW P G nt F ic (Qw Q) σ):AW P G nt F ic Q σ:=by
 intro code ht c a w hR
 refine wpIn_mono (h code ht c a w hR) ?_
 rintro e a1 w1 ⟨σ2,c1,⟨σx,σ1,hg,hs,hq⟩,hR2,hW⟩
 obtain ⟨hR3,hW3⟩:=(hR2.ge hg).sub hs
 exact ⟨σ1,c1,hq,hR3,(hW.ge hg).trans hW3⟩
theorem AW.ra (hF:FOk F) {d:Bool} {ops:List IOper} {Q:Post} {σ:St} (us:List Nat) (σ1:St) (h:segB G us d ops σ (keysE σ1.env) (keysL σ1.heap) σ1.nx=some σ1) (k:Q .normal σ1):AW P G nt F (.reg d ops) Q σ:=by
 unfold segB at h
 split at h
 ·rename_i σ' L hw
  refine AW.qw ?_
  cases d with
  | false=>exact AW.reg hF (RunC.mono (run_ge hw) fun σb s hb=>⟨σ',σ1,hb.1,keepS_ok h,k⟩)
  | true=>
   simp only at h
   split at h
   ·rename_i hok
    exact AW.regD hF (RunC.mono (run_ge hw) fun σb s hb=>⟨okD_mono hb.2 hok,σ',σ1,hb.1,keepS_ok h,k⟩)
   ·cases h
 ·cases h
theorem AW.sa (hF:FOk F) {d:Bool} {ops:List IOper} {y:ICode} {Q:Post} {σ:St} (us:List Nat) (σ1:St) (h:segB G us d ops σ (keysE σ1.env) (keysL σ1.heap) σ1.nx=some σ1) (k:AW P G nt F y Q σ1):AW P G nt F (.seq (.reg d ops) y) Q σ:=
 AW.seq (AW.ra hF us σ1 h k)
theorem AW.kp {y:ICode} {Q:Post} {σ:St} (σ1:St) (h:keepS σ (keysE σ1.env) (keysL σ1.heap) σ1.nx=some σ1) (k:AW P G nt F y Q σ1):AW P G nt F y Q σ:=AW.sub (keepS_ok h) k
theorem RW.ge {ops:List IOper} {Q:Post} {σ σb:St} (hg:Ge σb σ) (h:RW P G nt F ops Q σ):RW P G nt F ops Q σb:=by
 intro cops i hl ht c0 σ0 w0 c a w hR hW
 exact h cops i hl ht c0 σ0 w0 c a w (hR.ge hg) (hW.ge hg)
theorem RW.au (hF:FOk F) (n:Nat) {ops:List IOper} {Q:Post} {σ:St} (us:List Nat) (σ1:St) (h:segB G us false (ops.take n) σ (keysE σ1.env) (keysL σ1.heap) σ1.nx=some σ1) (k:RW P G nt F (ops.drop n) Q σ1):RW P G nt F ops Q σ:=by
 unfold segB at h
 split at h
 ·rename_i σ' L hw
  refine RW.run hF n (RunC.mono (run_ge hw) fun σb s hb=>RW.ge hb.1 (RW.sub hF (keepS_ok h) k))
 ·cases h
theorem RW.one (hF:FOk F) {o:IOper} {ops:List IOper} {Q:Post} {σ:St} (h:RunC P G nt (fun σ' _=>RW P G nt F ops Q σ') [o] σ []):RW P G nt F (o::ops) Q σ:=
 RW.run hF 1 h
theorem AW.rw {ops:List IOper} {Q:Post} {σ:St} (h:RW P G nt F ops Q σ):AW P G nt F (.reg false ops) Q σ:=AW.regW h
def normH:List (Nat×Blk)→List (Nat×Blk)
 | []=>[]
 | (r,b)::l=>(r,b)::(normH l).filter (fun p=>!(Nat.beq p.1 r))
theorem look_filter (r:Nat):∀ (l:List (Nat×Blk)) (n:Nat),n≠r→look (l.filter (fun p=>!(Nat.beq p.1 r))) n=look l n
 | [],n,_=>rfl
 | (k,x)::l,n,h=>by
  rw [List.filter_cons]
  by_cases e:k=r
  ·subst e
   simp only [Nat.beq_refl,Bool.not_true,Bool.false_eq_true,if_false]
   rw [look_filter _ l n h,look_cons,if_neg (fun e=>h e.symm)]
  ·have:Nat.beq k r=false:=by
    cases hb:Nat.beq k r with
    | true=>exact absurd (Nat.eq_of_beq_eq_true hb) e
    | false=>rfl
   simp only [this,Bool.not_false,if_true]
   rw [look_cons,look_cons,look_filter r l n h]
theorem look_normH:∀ (l:List (Nat×Blk)),look (normH l)=look l
 | []=>rfl
 | (r,b)::l=>by
  funext n
  simp only [normH]
  rw [look_cons,look_cons]
  split
  ·rfl
  ·rename_i h
   rw [look_filter r _ n (fun e=>h e.symm),look_normH l]
def autR (G:Gl) (ops:List IOper) (σ:St) (ts:List Nat):Option St:=
 match runC G ops σ [] with
 | some (σ',_)=>match selE σ'.env ts with
  | some e=>some ⟨e,normH σ'.heap,σ'.nx,σ'.fr,σ'.dfs,σ'.base⟩
  | none=>none
 | none=>none
def sdsC (G:Gl) (ops:List IOper) (σ:St):List SD:=match runC G ops σ [] with | some (_,s)=>s | none=>[]
theorem runC_pre:∀ {ops:List IOper} {σ σ':St} {s0 s:List SD},runC G ops σ s0=some (σ',s)→∀ s1,runC G ops σ (s1++s0)=some (σ',s1++s)
 | [],σ,σ',s0,s,h,s1=>by simp only [runC] at h ⊢;cases h;rfl
 | o::l,σ,σ',s0,s,h,s1=>by
  simp only [runC] at h ⊢
  cases hg:gdC σ o.guard with
  | none=>rw [hg] at h;cases h
  | some g=>
   rw [hg] at h
   cases g with
   | true=>
    cases ho:opC G σ o.op with
    | none=>rw [ho] at h;cases h
    | some r=>
     rw [ho] at h
     simp only at h ⊢
     rw [List.append_assoc];exact runC_pre h s1
   | false=>
    simp only at h ⊢
    rw [List.append_assoc];exact runC_pre h s1
def Kd (ops:List IOper) (Q:Post):St→List SD→Prop:=Kc (fun σ' s=>okD ops s=true∧∃ σ1,σ1.Sub σ'∧Q .normal σ1)
theorem AW.drw (hF:FOk F) {ops:List IOper} {Q:Post} {σ:St} (h:RunC P G nt (Kd ops Q) ops σ []):AW P G nt F (.reg true ops) Q σ:=by
 refine AW.qw (AW.regD hF (RunC.mono h fun σb s hb=>?_))
 obtain ⟨σx,hg,hok,σ1,hs,hq⟩:=hb
 exact ⟨hok,σx,σ1,hg,hs,hq⟩
theorem RunC.fin {ops:List IOper} {Q:Post} {σ:St} {sds:List SD} (σ1:St) (hok:okD ops sds=true) (h:keepS σ (keysE σ1.env) (keysL σ1.heap) σ1.nx=some σ1) (k:Q .normal σ1):RunC P G nt (Kd ops Q) [] σ sds:=
 .nil ⟨σ,Ge.refl _,hok,σ1,keepS_ok h,k⟩
end
end Go.Abs
namespace Go.Abs
inductive Ctl (S R:Type) where
 | next (s:S)
 | brk (r:R)
def bindC {S R:Type}:Option (Ctl S R)→(S→Option R)→Option R
 | none,_=>none
 | some (.next s),k=>k s
 | some (.brk r),_=>some r
def forS {S:Type} (f:Int→S→Option S):Nat→Int→S→Option S
 | 0,_,s=>some s
 | n+1,i,s=>(f i s).bind fun s'=>forS f n (i+1) s'
def forC {S R:Type} (f:Int→S→Option (Ctl S R)):Nat→Int→S→Option (Ctl S R)
 | 0,_,s=>some (.next s)
 | n+1,i,s=>(f i s).bind fun c=>match c with
  | .next s'=>forC f n (i+1) s'
  | .brk r=>some (.brk r)
def eachS {α S:Type} (f:Int→α→S→Option S):List α→Int→S→Option S
 | [],_,s=>some s
 | x::xs,i,s=>(f i x s).bind fun s'=>eachS f xs (i+1) s'
def eachC {α S R:Type} (f:Int→α→S→Option (Ctl S R)):List α→Int→S→Option (Ctl S R)
 | [],_,s=>some (.next s)
 | x::xs,i,s=>(f i x s).bind fun c=>match c with
  | .next s'=>eachC f xs (i+1) s'
  | .brk r=>some (.brk r)
def whileC {S R:Type} (f:S→Option (Ctl S R)):Nat→S→Option R
 | 0,_=>none
 | n+1,s=>(f s).bind fun c=>match c with
  | .next s'=>whileC f n s'
  | .brk r=>some r
def ixL {α:Type} (xs:List α) (i:Int):Option α:=bif decide (0≤i) then xs[i.toNat]? else none
def ixN (n:Nat) (i:Int):Option Nat:=bif decide (0≤i)&&Nat.blt i.toNat n then some i.toNat else none
def must (b:Bool):Option Unit:=bif b then some () else none
def aset {α:Type} (w:Nat→α) (j:Nat) (x:α):Nat→α:=fun k=>bif Nat.beq k j then x else w k
def roomB (n:Nat) (bytes:Nat):Bool:=Nat.ble (n*bytes) 140737488355328
theorem ifT {α:Type} {b:Bool} {x y r:α} (hb:b=true) (h:(bif b then x else y)=r):x=r:=by subst hb;exact h
theorem ifF {α:Type} {b:Bool} {x y r:α} (hb:b=false) (h:(bif b then x else y)=r):y=r:=by subst hb;exact h
theorem bsome {α β:Type} {o:Option α} {f:α→Option β} {r:β} (h:o.bind f=some r):∃ x,o=some x∧f x=some r:=Option.bind_eq_some_iff.1 h
def Aft {S R:Type} (k:S→Option R) (r:R):Ctl S R→Prop
 | .next s=>k s=some r
 | .brk r'=>r'=r
theorem bsomeC {S R:Type} {o:Option (Ctl S R)} {k:S→Option R} {r:R} (h:bindC o k=some r):∃ c,o=some c∧Aft k r c:=by
 cases o with
 | none=>cases h
 | some c=>
  cases c with
  | next s=>exact ⟨_,rfl,h⟩
  | brk r'=>exact ⟨_,rfl,Option.some.inj h⟩
theorem Aft.nx {S R:Type} {k:S→Option R} {r:R} {s:S} (h:Aft k r (.next s)):k s=some r:=h
theorem Aft.bk {S R:Type} {k:S→Option R} {r r':R} (h:Aft k r (.brk r')):r'=r:=h
theorem must_ok {b:Bool} {u:Unit} (h:must b=some u):b=true:=by
 cases b with
 | true=>rfl
 | false=>cases h
theorem ixL_ok {α:Type} {xs:List α} {i:Int} {x:α} (h:ixL xs i=some x):0≤i∧xs[i.toNat]?=some x:=by
 unfold ixL at h
 cases hd:decide (0≤i) with
 | true=>rw [hd] at h;exact ⟨of_decide_eq_true hd,h⟩
 | false=>rw [hd] at h;cases h
theorem ixN_ok {n:Nat} {i:Int} {j:Nat} (h:ixN n i=some j):0≤i∧i.toNat<n∧i.toNat=j:=by
 unfold ixN at h
 cases hd:decide (0≤i)&&Nat.blt i.toNat n with
 | true=>
  rw [hd] at h
  simp only [Bool.and_eq_true] at hd
  exact ⟨of_decide_eq_true hd.1,Nat.le_of_ble_eq_true hd.2,Option.some.inj h⟩
 | false=>rw [hd] at h;cases h
theorem mapget {α β:Type} {xs:List α} {n:Nat} {x:α} {f:α→β} (h:xs[n]?=some x):(xs.map f)[n]?=some (f x):=by rw [List.getElem?_map,h];rfl
theorem inext {i N:Int} (h:i<N) (hN:N≤9223372036854775807) (h0:-9223372036854775808≤i):IntKind.i64.wrap (i+1)=i+1:=wrap_in ⟨by omega,by omega⟩
section
variable {P:Program} {nt:Nat} {G:Gl} {F:Fence}
def Can (G:Gl) (nt:Nat) (σ σ1:St):Prop:=∀ (c:Cx) (a:Act) (w:World),RelS G nt c σ a w→∃ c',RelS G nt c' σ1 a w∧Went c σ w c' σ1 w
theorem Can.refl (σ:St):Can G nt σ σ:=fun c a w h=>⟨c,h,Went.refl _ _ _⟩
theorem Can.trans {σ σ1 σ2:St} (h:Can G nt σ σ1) (k:Can G nt σ1 σ2):Can G nt σ σ2:=fun c a w hR=>by
 obtain ⟨c1,h1,h2⟩:=h c a w hR
 obtain ⟨c2,h3,h4⟩:=k c1 a w h1
 exact ⟨c2,h3,h2.trans h4⟩
theorem Can.sub {σ σ1:St} (h:σ1.Sub σ):Can G nt σ σ1:=fun c a w hR=>⟨c,hR.sub h⟩
theorem Can.kp {σ σ1:St} (h:keepS σ (keysE σ1.env) (keysL σ1.heap) σ1.nx=some σ1):Can G nt σ σ1:=.sub (keepS_ok h)
theorem AW.can {y:ICode} {Q:Post} {σ σ1:St} (h:Can G nt σ σ1) (k:AW P G nt F y Q σ1):AW P G nt F y Q σ:=by
 intro code htr c a w hR
 obtain ⟨c1,h1,h2⟩:=h c a w hR
 refine wpIn_mono (k code htr c1 a w h1) ?_
 rintro e a1 w1 ⟨σ2,c2,h3,h4,h5⟩
 exact ⟨σ2,c2,h3,h4,h2.trans h5⟩
theorem AW.canQ {y:ICode} {Q:Post} {σ:St} (k:AW P G nt F y (fun e σ'=>∃ σ1,Can G nt σ' σ1∧Q e σ1) σ):AW P G nt F y Q σ:=by
 intro code htr c a w hR
 refine wpIn_mono (k code htr c a w hR) ?_
 rintro e a1 w1 ⟨σ2,c2,⟨σ1,hc,hq⟩,h4,h5⟩
 obtain ⟨c3,h6,h7⟩:=hc c2 a1 w1 h4
 exact ⟨σ1,c3,hq,h6,h5.trans h7⟩
theorem RW.can {ops:List IOper} {Q:Post} {σ σ1:St} (h:Can G nt σ σ1) (k:RW P G nt F ops Q σ1):RW P G nt F ops Q σ:=by
 intro cops i hl ht c0 σ0 w0 c a w hR hW
 obtain ⟨c1,h1,h2⟩:=h c a w hR
 exact k cops i hl ht c0 σ0 w0 c1 a w h1 (hW.trans h2)
theorem AW.loopC {ι:Type} (st:ι→St) (I:ι→Prop) (μ:ι→Nat) {x:ICode} {Q:Post} {σ:St} (i0:ι) (h0:I i0) (hs:Can G nt σ (st i0))
  (round:∀ i,I i→AW P G nt F x (thenQ (fun σ'=>∃ j,I j∧μ j<μ i∧Can G nt σ' (st j)) Q) (st i)):AW P G nt F (.loop x) Q σ:=by
 intro code ht c a w hR
 cases ht with
 | loop ha=>
  obtain ⟨c0,hR0,hx0⟩:=hs c a w hR
  rename_i body
  intro b k cs hro hb hr
  have key:∀ (n:Nat) (i:ι),μ i<n→I i→∀ c' a' w',RelS G nt c' (st i) a' w'→Went c σ w c' (st i) w' →
    ∃ e a2 w2,Holds G nt c σ w Q e a2 w2∧ArrivesIn (Machine.fenced P F) P (lone (b.atR a' (.code body::.inLoop body::k)) cs w') b k cs e a2 w2:=by
   intro n
   induction n with
   | zero=>intro i hi;omega
   | succ n ih=>
    intro i hn hi c' a' w' hR' hx'
    obtain ⟨e,a1,w1,⟨σ1,c1,hq,hR1,hx1⟩,harr⟩:=round i hi _ ha c' a' w' hR' b (.inLoop body::k) cs hro hb hr
    cases e with
    | normal=>
     obtain ⟨j,hj,hlt,hsub⟩:=hq
     obtain ⟨c2,hR2,hx2⟩:=hsub c1 a1 w1 hR1
     obtain ⟨e2,a2,w2,hq2,harr2⟩:=ih j (by omega) hj c2 a1 w1 hR2 ((hx'.trans hx1).trans hx2)
     exact ⟨e2,a2,w2,hq2,.of_steps (StepsIn.trans harr (.one (fenced_calm hb hr rfl) stepR_inLoop)) harr2⟩
    | exit id=>exact ⟨_,a1,w1,⟨σ1,c1,hq,hR1,hx'.trans hx1⟩,.pass (x:=.inLoop body) rfl (fun _ _=>.inl (by simp)) harr⟩
    | goto l=>exact ⟨_,a1,w1,⟨σ1,c1,hq,hR1,hx'.trans hx1⟩,.pass (x:=.inLoop body) rfl (fun _ _=>.inl (by simp)) harr⟩
    | ret=>exact ⟨_,a1,w1,⟨σ1,c1,hq,hR1,hx'.trans hx1⟩,.pass (x:=.inLoop body) rfl (fun _ _=>.inl (by simp)) harr⟩
    | panic ch=>exact ⟨_,a1,w1,⟨σ1,c1,hq,hR1,hx'.trans hx1⟩,.pass (x:=.inLoop body) rfl (fun _ _=>.inl (by simp)) harr⟩
    | outgrown=>exact ⟨_,a1,w1,⟨σ1,c1,hq,hR1,hx'.trans hx1⟩,.pass (x:=.inLoop body) rfl (fun _ _=>.inl (by simp)) harr⟩
  obtain ⟨e,a2,w2,hq,harr⟩:=key (μ i0+1) i0 (by omega) h0 c0 a w hR0 hx0
  exact ⟨e,a2,w2,hq,.of_steps (.one (fenced_calm hb hr rfl) stepR_loop) harr⟩
theorem AW.lpC {S R:Type} (st:Int→S→St) (f:Int→S→Option (Ctl S R)) (N:Int) {i0:Int} {s0:S} {out:Ctl S R} {x:ICode} {Q:Post} {σ:St} (h:forC f (N - i0).toNat i0 s0=some out) (hs:Can G nt σ (st i0 s0))
  (body:∀ i s,i0≤i→i<N→∀ c,f i s=some c→(∀ r,c=.brk r→out=.brk r)→AW P G nt F x (thenQ (fun σ'=>∃ s',c=.next s'∧Can G nt σ' (st (i+1) s')) Q) (st i s))
  (done:∀ i s,i0≤i→N≤i→out=.next s→AW P G nt F x (thenQ (fun _=>False) Q) (st i s)):AW P G nt F (.loop x) Q σ:=by
 refine AW.loopC (fun p:Int×S=>st p.1 p.2) (fun p=>i0≤p.1∧forC f (N - p.1).toNat p.1 p.2=some out) (fun p=>(N - p.1).toNat+1 - (if N≤p.1 then 1 else 0)) (i0,s0) ⟨Int.le_refl _,h⟩ hs ?_
 rintro ⟨i,s⟩ ⟨hi,hf⟩
 simp only at hi hf ⊢
 by_cases hN:N≤i
 ·have e:(N - i).toNat=0:=by omega
  rw [e] at hf
  have:=(Option.some.inj hf).symm
  refine (done i s hi hN this).mono fun e σ' hq=>?_
  cases e with
  | normal=>exact hq.elim
  | _=>exact hq
 ·have e:(N - i).toNat=(N - (i+1)).toNat+1:=by omega
  rw [e] at hf
  simp only [forC] at hf
  obtain ⟨c,hc,hk⟩:=bsome hf
  refine (body i s hi (by omega) c hc (fun r hr=>?_)).mono fun e σ' hq=>?_
  ·subst hr;exact (Option.some.inj hk).symm
  ·cases e with
   | normal=>
    obtain ⟨s',hs',hsub⟩:=hq
    subst hs'
    refine ⟨(i+1,s'),⟨by simp only;omega,hk⟩,?_,hsub⟩
    simp only [if_neg hN]
    split<;>omega
   | _=>exact hq
theorem AW.lpS {S:Type} (st:Int→S→St) (f:Int→S→Option S) (N:Int) {i0:Int} {s0 out:S} {x:ICode} {Q:Post} {σ:St} (h:forS f (N - i0).toNat i0 s0=some out) (hs:Can G nt σ (st i0 s0))
  (body:∀ i s,i0≤i→i<N→∀ c,f i s=some c→AW P G nt F x (thenQ (fun σ'=>Can G nt σ' (st (i+1) c)) Q) (st i s))
  (done:∀ i s,i0≤i→N≤i→s=out→AW P G nt F x (thenQ (fun _=>False) Q) (st i s)):AW P G nt F (.loop x) Q σ:=by
 refine AW.loopC (fun p:Int×S=>st p.1 p.2) (fun p=>i0≤p.1∧forS f (N - p.1).toNat p.1 p.2=some out) (fun p=>(N - p.1).toNat+1 - (if N≤p.1 then 1 else 0)) (i0,s0) ⟨Int.le_refl _,h⟩ hs ?_
 rintro ⟨i,s⟩ ⟨hi,hf⟩
 simp only at hi hf ⊢
 by_cases hN:N≤i
 ·have e:(N - i).toNat=0:=by omega
  rw [e] at hf
  have:=Option.some.inj hf
  refine (done i s hi hN this).mono fun e σ' hq=>?_
  cases e with
  | normal=>exact hq.elim
  | _=>exact hq
 ·have e:(N - i).toNat=(N - (i+1)).toNat+1:=by omega
  rw [e] at hf
  simp only [forS] at hf
  obtain ⟨c,hc,hk⟩:=bsome hf
  refine (body i s hi (by omega) c hc).mono fun e σ' hq=>?_
  cases e with
  | normal=>
   refine ⟨(i+1,c),⟨by simp only;omega,hk⟩,?_,hq⟩
   simp only [if_neg hN]
   split<;>omega
  | _=>exact hq
theorem drop_cons {α:Type} {xs:List α} {n:Nat} {x:α} (h:xs[n]?=some x):xs.drop n=x::xs.drop (n+1):=by
 have hlt:=(List.getElem?_eq_some_iff.1 h).1
 rw [List.drop_eq_getElem_cons hlt,(List.getElem?_eq_some_iff.1 h).2]
theorem eachS_for {α S:Type} (f:Int→α→S→Option S) (xs:List α):∀ (n i:Nat) (s:S),i+n=xs.length→eachS f (xs.drop i) i s=forS (fun i s=>(ixL xs i).bind fun x=>f i x s) n i s
 | 0,i,s,h=>by rw [List.drop_of_length_le (by omega)];rfl
 | n+1,i,s,h=>by
  obtain ⟨x,hx⟩:∃ x,xs[i]?=some x:=⟨_,List.getElem?_eq_getElem (by omega)⟩
  rw [drop_cons hx]
  simp only [eachS,forS]
  have e:ixL xs (i:Int)=some x:=by simp [ixL,hx]
  rw [e]
  simp only [Option.bind_some]
  congr 1;funext s'
  exact eachS_for f xs n (i+1) s' (by omega)
theorem eachC_for {α S R:Type} (f:Int→α→S→Option (Ctl S R)) (xs:List α):∀ (n i:Nat) (s:S),i+n=xs.length→eachC f (xs.drop i) i s=forC (fun i s=>(ixL xs i).bind fun x=>f i x s) n i s
 | 0,i,s,h=>by rw [List.drop_of_length_le (by omega)];rfl
 | n+1,i,s,h=>by
  obtain ⟨x,hx⟩:∃ x,xs[i]?=some x:=⟨_,List.getElem?_eq_getElem (by omega)⟩
  rw [drop_cons hx]
  simp only [eachC,forC]
  have e:ixL xs (i:Int)=some x:=by simp [ixL,hx]
  rw [e]
  simp only [Option.bind_some]
  congr 1;funext c
  cases c with
  | next s'=>exact eachC_for f xs n (i+1) s' (by omega)
  | brk r=>rfl
theorem AW.evC {α S R:Type} (st:Int→S→St) (f:Int→α→S→Option (Ctl S R)) {xs:List α} {s0:S} {out:Ctl S R} {x:ICode} {Q:Post} {σ:St} (h:eachC f xs 0 s0=some out) (hs:Can G nt σ (st 0 s0))
  (body:∀ (i:Int) p s,0≤i→i<xs.length→xs[i.toNat]?=some p→∀ c,f i p s=some c→(∀ r,c=.brk r→out=.brk r)→AW P G nt F x (thenQ (fun σ'=>∃ s',c=.next s'∧Can G nt σ' (st (i+1) s')) Q) (st i s))
  (done:∀ (i:Int) s,0≤i→(xs.length:Int)≤i→out=.next s→AW P G nt F x (thenQ (fun _=>False) Q) (st i s)):AW P G nt F (.loop x) Q σ:=by
 have h':=eachC_for f xs xs.length 0 s0 (by omega)
 rw [List.drop_zero] at h'
 have h2:forC (fun i s=>(ixL xs i).bind fun x=>f i x s) ((xs.length:Int) - 0).toNat 0 s0=some out:=by rw [← h];exact h'.symm
 refine AW.lpC st _ xs.length h2 hs (fun i s h0 hN c hc hb=>?_) done
 obtain ⟨p,hp,hf⟩:=bsome hc
 exact body i p s h0 hN (ixL_ok hp).2 c hf hb
theorem AW.evS {α S:Type} (st:Int→S→St) (f:Int→α→S→Option S) {xs:List α} {s0 out:S} {x:ICode} {Q:Post} {σ:St} (h:eachS f xs 0 s0=some out) (hs:Can G nt σ (st 0 s0))
  (body:∀ (i:Int) p s,0≤i→i<xs.length→xs[i.toNat]?=some p→∀ c,f i p s=some c→AW P G nt F x (thenQ (fun σ'=>Can G nt σ' (st (i+1) c)) Q) (st i s))
  (done:∀ (i:Int) s,0≤i→(xs.length:Int)≤i→s=out→AW P G nt F x (thenQ (fun _=>False) Q) (st i s)):AW P G nt F (.loop x) Q σ:=by
 have h':=eachS_for f xs xs.length 0 s0 (by omega)
 rw [List.drop_zero] at h'
 have h2:forS (fun i s=>(ixL xs i).bind fun x=>f i x s) ((xs.length:Int) - 0).toNat 0 s0=some out:=by rw [← h];exact h'.symm
 refine AW.lpS st _ xs.length h2 hs (fun i s h0 hN c hc=>?_) done
 obtain ⟨p,hp,hf⟩:=bsome hc
 exact body i p s h0 hN (ixL_ok hp).2 c hf
theorem AW.wh {S R:Type} (st:S→St) (f:S→Option (Ctl S R)) {n:Nat} {s0:S} {out:R} {x:ICode} {Q:Post} {σ:St} (h:whileC f n s0=some out) (hs:Can G nt σ (st s0))
  (body:∀ s c,f s=some c→(∀ r,c=.brk r→r=out)→AW P G nt F x (thenQ (fun σ'=>∃ s',c=.next s'∧Can G nt σ' (st s')) Q) (st s)):AW P G nt F (.loop x) Q σ:=by
 refine AW.loopC (fun p:Nat×S=>st p.2) (fun p=>whileC f p.1 p.2=some out) (fun p=>p.1) (n,s0) h hs ?_
 rintro ⟨n,s⟩ hf
 simp only at hf ⊢
 cases n with
 | zero=>cases hf
 | succ n=>
  simp only [whileC] at hf
  obtain ⟨c,hc,hk⟩:=bsome hf
  refine (body s c hc (fun r hr=>?_)).mono fun e σ' hq=>?_
  ·subst hr;exact Option.some.inj hk
  ·cases e with
   | normal=>
    obtain ⟨s',hs',hsub⟩:=hq
    subst hs'
    exact ⟨(n,s'),hk,by simp only;omega,hsub⟩
   | _=>exact hq
theorem AW.jn {J R:Type} (st:J→St) {c:Ctl J R} {x y:ICode} {Q:Post} {σ:St} (h:AW P G nt F x (thenQ (fun σ'=>∃ j,c=.next j∧Can G nt σ' (st j)) Q) σ) (k:∀ j,c=.next j→AW P G nt F y Q (st j)):AW P G nt F (.seq x y) Q σ:=by
 refine AW.seq (h.mono fun e σ1 hq=>?_)
 cases e with
 | normal=>obtain ⟨j,hj,hs⟩:=hq;exact AW.can hs (k j hj)
 | _=>exact hq
theorem AW.jnS {J:Type} (st:J→St) {c:J} {x y:ICode} {Q:Post} {σ:St} (h:AW P G nt F x (thenQ (fun σ'=>Can G nt σ' (st c)) Q) σ) (k:AW P G nt F y Q (st c)):AW P G nt F (.seq x y) Q σ:=by
 refine AW.seq (h.mono fun e σ1 hq=>?_)
 cases e with
 | normal=>exact AW.can hq k
 | _=>exact hq
theorem AW.sln {t:Nat} {es:Nat} {xs:List (List D)} {y:ICode} {Q:Post} {σ:St} (ht:look σ.env t=some (.d (.sl es xs))) (k:(xs.length:Int)≤9223372036854775807→AW P G nt F y Q σ):AW P G nt F y Q σ:=by
 intro code htr c a w hR
 obtain ⟨cv,h1,h2⟩:=hR.R.env t _ ht
 have:xs.length≤maxLen:=by
  cases h2 with
  | d _ _ hd=>cases hd with | sl es xs a c cv hc hb=>omega
 exact k (by unfold maxLen at this;omega) code htr c a w hR
theorem AW.slh {r T off:Nat} {cs:List V} {es:Nat} {xs:List (List D)} {y:ICode} {Q:Post} {σ:St} (hr:look σ.heap r=some (.var T cs)) (hc:cs[off]?=some (.d (.sl es xs))) (k:(xs.length:Int)≤9223372036854775807→AW P G nt F y Q σ):AW P G nt F y Q σ:=by
 intro code htr c a w hR
 have hlt:=(List.getElem?_eq_some_iff.1 hc).1
 have:xs.length≤maxLen:=by
  rcases hR.R.h.pl _ _ hr with ⟨g,m,hf,cur,h1,h2,h3⟩ | ⟨_,hu⟩
  ·obtain ⟨cv,hcv⟩:∃ cv,cur[off]?=some cv:=⟨_,Array.getElem?_eq_getElem (by omega)⟩
   obtain ⟨h4,_⟩:=h3 off _ cv hc hcv
   cases h4 with
   | d _ _ hd=>cases hd with | sl es xs a c cv hc hb=>omega
  ·cases hu
 exact k (by unfold maxLen at this;omega) code htr c a w hR
end
end Go.Abs
namespace Go.Abs
def wk1 (es:Nat):V→V
 | .d .nilSl=>.d (.sl es [])
 | .fsl es' xs=>.d (.sl es' xs)
 | v=>v
theorem VRel.wk1 {c:Cx} {H:Hp} {U:Nat→Prop} {w:World} {v:V} {cv:Value} (h:VRel c H U w v cv) (es:Nat):VRel c H U w (wk1 es v) cv:=by
 unfold Go.Abs.wk1
 split
 ·cases h with
  | d _ _ hd=>cases hd;exact .d _ _ (.sl es [] none 0 (fun _ _=>.nilFunc) (Nat.le_refl _) (Nat.zero_le _) (fun h=>absurd h (by simp)) (fun i row h=>by simp at h) (fun _ _ h=>by cases h) (fun i j row x h=>by simp at h))
 ·cases h with
  | fsl _ _ a h=>exact .d _ _ h
 ·exact h
section
variable {P:Program} {nt:Nat} {G:Gl} {F:Fence}
theorem Can.wkE (t es:Nat) {v:V} {σ:St} (ht:look σ.env t=some v):Can G nt σ { env:=(t,wk1 es v)::σ.env,heap:=σ.heap,nx:=σ.nx,fr:=σ.fr,dfs:=σ.dfs,base:=σ.base }:=by
 intro c a w hR
 have hR':RelS G nt c { env:=(t,Go.Abs.wk1 es v)::σ.env,heap:=σ.heap,nx:=σ.nx,fr:=σ.fr,dfs:=σ.dfs,base:=σ.base } a w:=by
  refine ⟨⟨hR.R.nt,fun u x hx=>?_,hR.R.h⟩,hR.df,hR.base⟩
  simp only at hx
  rw [look_cons] at hx
  split at hx
  ·rename_i e;subst e;cases hx
   obtain ⟨cv,h1,h2⟩:=hR.R.env _ _ ht
   exact ⟨cv,h1,h2.wk1 es⟩
  ·exact hR.R.env u x hx
 exact ⟨c,hR',⟨Ext.refl _ _ _,HB.refl _ _ _,rfl⟩⟩
theorem HStep.ofSet {c:Cx} {H:Hp} {U:Nat→Prop} {r T:Nat} {cs cs':List V} (hr:H r=some (.var T cs)):HStep c H U c (upd H r (.var T cs')) U where
 hU:=fun _ h=>h
 hy:=rfl
 hA:=fun _ h=>h
 var:=fun r0 T0 cs0 h0=>by
  by_cases e:r=r0
  ·subst e;rw [hr] at h0;cases h0;exact ⟨rfl,cs',upd_same _ _ _⟩
  ·exact ⟨rfl,cs0,(upd_other _ _ _ _ e).trans h0⟩
 row:=fun r0 T0 es xs _ h0=>by
  by_cases e:r=r0
  ·subst e;rw [upd_same] at h0;cases h0
  ·rw [upd_other _ _ _ _ e] at h0;exact ⟨xs,h0,Nat.le_refl _,fun _=>rfl⟩
 mp:=fun r0 es h0=>by
  by_cases e:r=r0
  ·subst e;rw [hr] at h0;cases h0
  ·exact ⟨rfl,es,(upd_other _ _ _ _ e).trans h0⟩
 dm:=fun r0 h0=>by
  by_cases e:r=r0
  ·subst e;rw [hr] at h0;cases h0
  ·exact ⟨rfl,(upd_other _ _ _ _ e).trans h0⟩
 arr:=fun r0 T0 cs0 _ h0=>by
  by_cases e:r=r0
  ·subst e;rw [upd_same] at h0;cases h0
  ·rw [upd_other _ _ _ _ e] at h0;exact ⟨cs0,h0,rfl⟩
theorem HRel.retell {c0 c:Cx} {H0 H:Hp} {U:Nat→Prop} {fr:Fr} {w:World} (h00:HRel G c0 H0 U fr w) (h:HRel G c H U fr w) {r T:Nat} {cs cs':List V} (hr0:H0 r=some (.var T cs)) (hr:H r=some (.var T cs)) (hfm:c0.fm r=c.fm r) (hl:cs'.length=cs.length)
  (hc:∀ (j:Nat) (x x':V) (cv:Value),cs[j]?=some x→cs'[j]?=some x'→VRel c0 H0 U w x cv→VRel c H U w x' cv):HRel G c (upd H r (.var T cs')) U fr w:=by
 have hs:HStep c H U c (upd H r (.var T cs')) U:=HStep.ofSet hr
 refine ⟨fun r0 b h0=>?_,fun r0 b h0=>?_,fun r0 r1 b0 b1 g m m' h0 h1 f0 f1=>?_,fun r0 b g m h0 f0=>?_,fun r0 b g m h0 f0=>?_,h.AO,h.Alt,h.Olt,h.fr,h.gl⟩
 ·by_cases e:r=r0
  ·subst e;exact h.lt _ _ hr
  ·rw [upd_other _ _ _ _ e] at h0;exact h.lt _ _ h0
 ·by_cases e:r=r0
  ·subst e
   rw [upd_same] at h0;cases h0
   rcases h00.pl _ _ hr0 with ⟨g,m,hf,cur,h1,h2,h3⟩ | ⟨_,hu⟩
   ·refine .inl ⟨g,m,hfm.symm.trans hf,cur,h1,by omega,fun j x cv hx hcv=>?_⟩
    have hlt:=(List.getElem?_eq_some_iff.1 hx).1
    obtain ⟨h4,h5⟩:=h3 j _ cv (List.getElem?_eq_getElem (by omega)) hcv
    exact ⟨(hc j _ x cv (List.getElem?_eq_getElem (by omega)) hx h4).mono (fun _ _=>rfl) hs,h5⟩
   ·cases hu
  ·rw [upd_other _ _ _ _ e] at h0
   exact (h.pl _ _ h0).imp (fun ⟨g,m,hf,hB⟩=>⟨g,m,hf,hB.mono rfl (fun _ _=>rfl) hs⟩) id
 all_goals
  have key:∀ r0 b,upd H r (.var T cs') r0=some b→∃ b',H r0=some b':=fun r0 b h0=>by
   by_cases e:r=r0
   ·subst e;exact ⟨_,hr⟩
   ·rw [upd_other _ _ _ _ e] at h0;exact ⟨_,h0⟩
 ·obtain ⟨_,h2⟩:=key _ _ h0
  obtain ⟨_,h3⟩:=key _ _ h1
  exact h.inj _ _ _ _ _ _ _ h2 h3 f0 f1
 ·obtain ⟨_,h2⟩:=key _ _ h0
  exact h.nA _ _ _ _ h2 f0
 ·obtain ⟨_,h2⟩:=key _ _ h0
  exact h.nO _ _ _ _ h2 f0
theorem Can.wkH (r off es:Nat) {T:Nat} {cs:List V} {v:V} {σ:St} (hr:look σ.heap r=some (.var T cs)) (hc:cs[off]?=some v)
  : Can G nt σ { env:=σ.env,heap:=(r,.var T (cs.set off (wk1 es v)))::σ.heap,nx:=σ.nx,fr:=σ.fr,dfs:=σ.dfs,base:=σ.base }:=by
 intro c a w hR
 have hs:HStep c (look σ.heap) (fun r=>r<σ.nx) c (look ((r,.var T (cs.set off (Go.Abs.wk1 es v)))::σ.heap)) (fun r=>r<σ.nx):=by rw [look_upd];exact HStep.ofSet hr
 have hR':RelS G nt c { env:=σ.env,heap:=(r,.var T (cs.set off (Go.Abs.wk1 es v)))::σ.heap,nx:=σ.nx,fr:=σ.fr,dfs:=σ.dfs,base:=σ.base } a w:=by
  refine ⟨⟨hR.R.nt,fun u x hx=>?_,?_⟩,hR.df.mono hs,hR.base⟩
  ·obtain ⟨cv,h1,h2⟩:=hR.R.env _ _ hx
   exact ⟨cv,h1,h2.mono (fun _ _=>rfl) hs⟩
  ·simp only
   rw [look_upd]
   refine HRel.retell hR.R.h hR.R.h hr hr rfl (by simp) fun j x x' cv hx hx' hv=>?_
   rw [List.getElem?_set] at hx'
   split at hx'
   ·rename_i e;subst e
    split at hx'<;>cases hx'
    rw [hc] at hx;cases hx
    exact hv.wk1 es
   ·rw [hx] at hx';cases hx';exact hv
 have hW:Went c σ w c { env:=σ.env,heap:=(r,.var T (cs.set off (Go.Abs.wk1 es v)))::σ.heap,nx:=σ.nx,fr:=σ.fr,dfs:=σ.dfs,base:=σ.base } w:=by
  refine ⟨⟨rfl,rfl,rfl,Nat.le_refl _,rfl,fun _ _ _ _=>rfl,fun r0 b g m h0 f0=>?_,fun _ h=>h,fun _ h=>.inl h,fun _ h=>.inr (.inl h)⟩,HB.of hR.base hs,rfl⟩
  simp only at h0
  rw [look_cons] at h0
  split at h0
  ·rename_i e;subst e;exact .inr (.inr ⟨r,_,m,hr,f0⟩)
  ·exact .inr (.inr ⟨r0,b,m,h0,f0⟩)
 exact ⟨c,hR',hW⟩
theorem Can.thawT (t Te es:Nat) {σ:St} (ht:look σ.env t=some (.d .nilSl)) (hes:Nat.blt 0 es=true)
  : Can G nt σ { env:=(t,.own σ.nx 0)::σ.env,heap:=(σ.nx,.row Te es [])::σ.heap,nx:=σ.nx+1,fr:=σ.fr,dfs:=σ.dfs,base:=σ.base }:=by
 intro c a w hR
 obtain ⟨u1,u2,u3⟩:=hR.R.h.unplaced σ.nx Te es (fun h=>Nat.lt_irrefl _ h) (Nat.le_of_ble_eq_true hes)
 have hus:usOf [σ.nx] (fun r=>r<σ.nx)=fun r=>r<σ.nx+1:=by
  funext r;simp only [usOf,List.mem_singleton,eq_iff_iff];omega
 rw [hus] at u1 u2
 have hH:upd (look σ.heap) σ.nx (.row Te es [])=look ((σ.nx,Blk.row Te es [])::σ.heap):=(look_upd _ _ _).symm
 rw [hH] at u1 u2 u3
 have hR':RelS G nt (c.un σ.nx) { env:=(t,.own σ.nx 0)::σ.env,heap:=(σ.nx,.row Te es [])::σ.heap,nx:=σ.nx+1,fr:=σ.fr,dfs:=σ.dfs,base:=σ.base } a w:=by
  refine ⟨⟨hR.R.nt,fun u x hx=>?_,u2⟩,hR.df.mono u1,Nat.le_trans hR.base (Nat.le_succ _)⟩
  simp only at hx
  rw [look_cons] at hx
  split at hx
  ·rename_i e;subst e;cases hx
   obtain ⟨cv,h1,h2⟩:=hR.R.env _ _ ht
   cases h2 with
   | d _ _ hd=>
    cases hd
    exact ⟨_,h1,.own σ.nx 0 none 0 (Nat.lt_succ_self _) (Nat.zero_le _) (fun _ _ _ _=>Nat.zero_le _) (fun T' es' xs' h1 h2=>.inr ⟨by simp [Cx.un],rfl,rfl⟩)⟩
  ·obtain ⟨cv,h1,h2⟩:=hR.R.env _ _ hx
   exact ⟨cv,h1,h2.mono (fun _ _=>rfl) u1⟩
 have hW:Went c σ w (c.un σ.nx) { env:=(t,.own σ.nx 0)::σ.env,heap:=(σ.nx,.row Te es [])::σ.heap,nx:=σ.nx+1,fr:=σ.fr,dfs:=σ.dfs,base:=σ.base } w:=⟨u3,HB.of hR.base u1,rfl⟩
 exact ⟨_,hR',hW⟩
theorem Can.thawH (r off T Te es:Nat) {cs:List V} {σ:St} (hr:look σ.heap r=some (.var T cs)) (hc:cs[off]?=some (.d .nilSl)) (hes:Nat.blt 0 es=true)
  : Can G nt σ { env:=σ.env,heap:=(r,.var T (cs.set off (.own σ.nx 0)))::(σ.nx,.row Te es [])::σ.heap,nx:=σ.nx+1,fr:=σ.fr,dfs:=σ.dfs,base:=σ.base }:=by
 intro c a w hR
 obtain ⟨u1,u2,u3⟩:=hR.R.h.unplaced σ.nx Te es (fun h=>Nat.lt_irrefl _ h) (Nat.le_of_ble_eq_true hes)
 have hus:usOf [σ.nx] (fun r=>r<σ.nx)=fun r=>r<σ.nx+1:=by
  funext r;simp only [usOf,List.mem_singleton,eq_iff_iff];omega
 rw [hus] at u1 u2
 have hne:σ.nx≠r:=fun e=>by have:=hR.R.h.lt _ _ hr;omega
 have hr1:upd (look σ.heap) σ.nx (.row Te es []) r=some (.var T cs):=(upd_other _ _ _ _ hne).trans hr
 obtain ⟨g0,m0,hf0,hB0⟩:=(u2.pl r _ hr1).resolve_right (fun hn=>by obtain ⟨_,hu⟩:=hn;cases hu)
 have hs2:HStep (c.un σ.nx) (upd (look σ.heap) σ.nx (.row Te es [])) (fun r=>r<σ.nx+1) ((c.un σ.nx).put r g0 m0) (upd (upd (look σ.heap) σ.nx (.row Te es [])) r (.var T (cs.set off (.own σ.nx 0)))) (fun r=>r<σ.nx+1):=HStep.setVar hr1 hf0
 have hB:BRel ((c.un σ.nx).put r g0 m0) (upd (upd (look σ.heap) σ.nx (.row Te es [])) r (.var T (cs.set off (.own σ.nx 0)))) (fun r=>r<σ.nx+1) w g0 m0 (.var T (cs.set off (.own σ.nx 0))):=by
  obtain ⟨cur,p1,p2,p3⟩:=hB0
  refine ⟨cur,p1,by simpa using p2,fun j x cv hx hcv=>?_⟩
  rw [List.getElem?_set] at hx
  by_cases e:off=j
  ·subst e
   rw [if_pos rfl] at hx
   split at hx<;>cases hx
   obtain ⟨q1,q2⟩:=p3 off _ cv hc hcv
   cases q1 with
   | d _ _ hd=>
    cases hd
    refine ⟨.own σ.nx 0 none 0 (by omega) (Nat.zero_le _) (fun _ _ _ _=>Nat.zero_le _) (fun T' es' xs' h1 h2=>.inr ⟨?_,rfl,rfl⟩),q2⟩
    show (upd (c.un σ.nx).fm r (g0,m0)) σ.nx=none
    rw [upd_other _ _ _ _ (Ne.symm hne)];simp [Cx.un]
  ·rw [if_neg e] at hx
   obtain ⟨q1,q2⟩:=p3 j x cv hx hcv
   exact ⟨q1.mono (fun _ _=>rfl) hs2,q2⟩
 have hp:=u2.put (w':=w) r g0 m0 (.var T (cs.set off (.own σ.nx 0))) hs2 rfl rfl rfl (Nat.le_refl _) (fun _ _ _=>rfl) (.inr ⟨_,m0,hr1,hf0⟩) (u2.lt _ _ hr1) hB
 have hH:upd (upd (look σ.heap) σ.nx (.row Te es [])) r (.var T (cs.set off (.own σ.nx 0)))=look ((r,Blk.var T (cs.set off (.own σ.nx 0)))::(σ.nx,Blk.row Te es [])::σ.heap):=by rw [look_upd,look_upd]
 rw [hH] at hp hs2
 have hst:HStep c (look σ.heap) (fun r=>r<σ.nx) ((c.un σ.nx).put r g0 m0) (look ((r,Blk.var T (cs.set off (.own σ.nx 0)))::(σ.nx,Blk.row Te es [])::σ.heap)) (fun r=>r<σ.nx+1):=by
  refine ⟨fun r hr=>hs2.hU r (u1.hU r hr),rfl,fun _ h=>h,fun q T' cs' hq=>?_,fun q T' es' xs' hu hq=>?_,fun q es' hq=>?_,fun q hq=>?_,fun q T' cs' hu hq=>?_⟩
  ·obtain ⟨a1,c1,a2⟩:=u1.var q T' cs' hq
   obtain ⟨a3,c2,a4⟩:=hs2.var q T' c1 a2
   exact ⟨a3.trans a1,c2,a4⟩
  ·obtain ⟨y1,a1,a2,a3⟩:=hs2.row q T' es' xs' (u1.hU q hu) hq
   obtain ⟨y2,b1,b2,b3⟩:=u1.row q T' es' y1 hu a1
   exact ⟨y2,b1,by omega,fun e=>(a3 (by omega)).trans (b3 (by omega))⟩
  ·obtain ⟨a1,c1,a2⟩:=u1.mp q es' hq
   obtain ⟨a3,c2,a4⟩:=hs2.mp q c1 a2
   exact ⟨a3.trans a1,c2,a4⟩
  ·obtain ⟨a1,a2⟩:=u1.dm q hq
   obtain ⟨a3,a4⟩:=hs2.dm q a2
   exact ⟨a3.trans a1,a4⟩
  ·obtain ⟨y1,a1,a2⟩:=hs2.arr q T' cs' (u1.hU q hu) hq
   obtain ⟨y2,b1,b2⟩:=u1.arr q T' y1 hu a1
   exact ⟨y2,b1,a2.trans b2⟩
 have hR':RelS G nt ((c.un σ.nx).put r g0 m0) { env:=σ.env,heap:=(r,.var T (cs.set off (.own σ.nx 0)))::(σ.nx,.row Te es [])::σ.heap,nx:=σ.nx+1,fr:=σ.fr,dfs:=σ.dfs,base:=σ.base } a w:=by
  refine ⟨⟨hR.R.nt,fun t v hv=>?_,hp.1⟩,hR.df.mono hst,Nat.le_trans hR.base (Nat.le_succ _)⟩
  obtain ⟨cv,h1,h2⟩:=hR.R.env t v hv
  exact ⟨cv,h1,h2.mono (fun _ _=>rfl) hst⟩
 have hW:Went c σ w ((c.un σ.nx).put r g0 m0) { env:=σ.env,heap:=(r,.var T (cs.set off (.own σ.nx 0)))::(σ.nx,.row Te es [])::σ.heap,nx:=σ.nx+1,fr:=σ.fr,dfs:=σ.dfs,base:=σ.base } w:=⟨u3.trans hp.2,HB.of hR.base hst,rfl⟩
 exact ⟨_,hR',hW⟩
def Cx.fz (c:Cx) (r:Nat):Cx:={ fm:=fun n=>if r=n then none else c.fm n,A:=fun g=>c.A g∨∃ m,c.fm r=some (g,m),O:=c.O,y:=c.y }
theorem HStep.fz (c:Cx) (H:Hp) (U:Nat→Prop) {r T es:Nat} {xs:List (List D)} (hr:H r=some (.row T es xs)):HStep c H U (c.fz r) (upd H r .dead) U where
 hU:=fun _ h=>h
 hy:=rfl
 hA:=fun _ h=>.inl h
 var:=fun r0 T0 cs h0=>by
  by_cases e:r=r0
  ·subst e;rw [hr] at h0;cases h0
  ·exact ⟨by simp [Cx.fz,e],cs,(upd_other _ _ _ _ e).trans h0⟩
 row:=fun r0 T0 es0 xs0 _ h0=>by
  by_cases e:r=r0
  ·subst e;rw [upd_same] at h0;cases h0
  ·rw [upd_other _ _ _ _ e] at h0;exact ⟨xs0,h0,Nat.le_refl _,fun _=>by simp [Cx.fz,e]⟩
 mp:=fun r0 es0 h0=>by
  by_cases e:r=r0
  ·subst e;rw [hr] at h0;cases h0
  ·exact ⟨by simp [Cx.fz,e],es0,(upd_other _ _ _ _ e).trans h0⟩
 dm:=fun r0 h0=>by
  by_cases e:r=r0
  ·subst e;rw [hr] at h0;cases h0
  ·exact ⟨by simp [Cx.fz,e],(upd_other _ _ _ _ e).trans h0⟩
 arr:=fun r0 T0 cs0 _ h0=>by
  by_cases e:r=r0
  ·subst e;rw [upd_same] at h0;cases h0
  ·rw [upd_other _ _ _ _ e] at h0;exact ⟨cs0,h0,by simp [Cx.fz,e]⟩
theorem HRel.fz {c:Cx} {H:Hp} {U:Nat→Prop} {fr:Fr} {w:World} (h:HRel G c H U fr w) {r T es:Nat} {xs:List (List D)} (hr:H r=some (.row T es xs)):HRel G (c.fz r) (upd H r .dead) U fr w:=by
 have hs:=HStep.fz c H U hr
 have old:∀ r0 b,r≠r0→upd H r .dead r0=some b→H r0=some b:=fun r0 b e h0=>by rwa [upd_other _ _ _ _ e] at h0
 have ne:∀ r0 g m,(c.fz r).fm r0=some (g,m)→r≠r0∧c.fm r0=some (g,m):=fun r0 g m h0=>by
  by_cases e:r=r0
  ·simp [Cx.fz,e] at h0
  ·exact ⟨e,by simpa [Cx.fz,e] using h0⟩
 refine ⟨fun r0 b h0=>?_,fun r0 b h0=>?_,fun r0 r1 b0 b1 g m m' h0 h1 f0 f1=>?_,fun r0 b g m h0 f0=>?_,fun r0 b g m h0 f0=>?_,fun g hg=>?_,fun g hg=>?_,h.Olt,fr.mono _ _ _ _ _ _ h.fr (fun _ h=>.inl h) (fun _ _=>rfl),fun g row hg=>?_⟩
 ·by_cases e:r=r0
  ·subst e;exact h.lt _ _ hr
  ·exact h.lt _ _ (old _ _ e h0)
 ·by_cases e:r=r0
  ·subst e;rw [upd_same] at h0;cases h0;exact .inr ⟨by simp [Cx.fz],.dead⟩
  ·rcases h.pl _ _ (old _ _ e h0) with ⟨g,m,hf,hB⟩ | ⟨hf,hu⟩
   ·exact .inl ⟨g,m,by simpa [Cx.fz,e] using hf,hB.mono rfl (fun _ _=>rfl) hs⟩
   ·exact .inr ⟨by simpa [Cx.fz,e] using hf,hu⟩
 ·obtain ⟨e0,f0⟩:=ne _ _ _ f0
  obtain ⟨e1,f1⟩:=ne _ _ _ f1
  exact h.inj _ _ _ _ _ _ _ (old _ _ e0 h0) (old _ _ e1 h1) f0 f1
 ·obtain ⟨e0,f0⟩:=ne _ _ _ f0
  rintro (ha | ⟨m',hm⟩)
  ·exact h.nA _ _ _ _ (old _ _ e0 h0) f0 ha
  ·exact e0 (h.inj _ _ _ _ _ _ _ hr (old _ _ e0 h0) hm f0)
 ·obtain ⟨e0,f0⟩:=ne _ _ _ f0
  exact h.nO _ _ _ _ (old _ _ e0 h0) f0
 ·rcases hg with ha | ⟨m',hm⟩
  ·exact h.AO g ha
  ·exact h.nO _ _ _ _ hr hm
 ·rcases hg with ha | ⟨m',hm⟩
  ·exact h.Alt g ha
  ·rcases h.pl _ _ hr with ⟨g0,m0,hf,cur,hc,_⟩ | ⟨hf,_⟩
   ·rw [hm] at hf;cases hf;exact (Array.getElem?_eq_some_iff.1 hc).1
   ·rw [hm] at hf;cases hf
 ·obtain ⟨ha,hc⟩:=h.gl g row hg
  exact ⟨.inl ha,fun j x hx=>let ⟨cv,h1,h2⟩:=hc j x hx;⟨cv,h1,h2.mono (fun _ h=>.inl h) (fun _ _=>rfl)⟩⟩
theorem VRel.fz {c:Cx} {H:Hp} {U:Nat→Prop} {fr:Fr} {w:World} (h:HRel G c H U fr w) {r n T es:Nat} {xs:List (List D)} (hr:H r=some (.row T es xs)) (hl:xs.length=n) {cv:Value} (hv:VRel c H U w (.own r n) cv):VRel (c.fz r) (upd H r .dead) U w (.d (.sl es xs)) cv:=by
 cases hv with
 | own _ _ a m hu hb hn hp=>exact .d _ _ (row_data h hr hl (hp T es xs hr hl) (fun _ h=>.inl h) (fun g hf=>.inr ⟨m,hf⟩))
theorem Can.fzCore {σ σ':St} {r:Nat} {b0:Blk} (hr:look σ.heap r=some b0) (hsame:σ'.nx=σ.nx∧σ'.fr=σ.fr∧σ'.dfs=σ.dfs∧σ'.base=σ.base)
  (hE:∀ (c:Cx) (a:Act) (w:World),RelS G nt c σ a w→∀ t v,look σ'.env t=some v→∃ cv,a.tmps[t]?=some cv∧VRel (c.fz r) (look σ'.heap) (fun r=>r<σ.nx) w v cv)
  (hH:∀ (c:Cx) (w:World),HRel G c (look σ.heap) (fun r=>r<σ.nx) σ.fr w→HRel G (c.fz r) (look σ'.heap) (fun r=>r<σ.nx) σ.fr w∧HStep c (look σ.heap) (fun r=>r<σ.nx) (c.fz r) (look σ'.heap) (fun r=>r<σ.nx))
  (hk:∀ r0 b,look σ'.heap r0=some b→∃ b',look σ.heap r0=some b')
  : Can G nt σ σ':=by
 intro c a w hR
 obtain ⟨e1,e2,e3,e4⟩:=hsame
 obtain ⟨h1,hs⟩:=hH c w hR.R.h
 have hR':RelS G nt (c.fz r) σ' a w:=by
  refine ⟨⟨hR.R.nt,?_,?_⟩,?_,?_⟩
  ·rw [e1];exact hE c a w hR
  ·rw [e1,e2];exact h1
  ·rw [e3];exact hR.df.mono hs
  ·rw [e4,e1];exact hR.base
 have hW:Went c σ w (c.fz r) σ' w:=by
  refine ⟨⟨rfl,rfl,rfl,Nat.le_refl _,rfl,fun _ _ _ _=>rfl,fun r0 b g m h0 f0=>?_,fun _ h=>.inl h,fun g hg=>?_,fun _ h=>.inr (.inl h)⟩,HB.of hR.base hs,e4⟩
  ·obtain ⟨b',hb'⟩:=hk r0 b h0
   by_cases e:r=r0
   ·simp [Cx.fz,e] at f0
   ·exact .inr (.inr ⟨r0,b',m,hb',by simpa [Cx.fz,e] using f0⟩)
  ·rcases hg with h | ⟨m,hm⟩
   ·exact .inl h
   ·exact .inr (.inr (.inr ⟨r,_,m,hr,hm⟩))
 exact ⟨_,hR',hW⟩
theorem Can.fzE (t r:Nat) {n T es:Nat} {xs:List (List D)} {σ:St} (ht:look σ.env t=some (.own r n)) (hr:look σ.heap r=some (.row T es xs)) (hl:xs.length=n)
  : Can G nt σ { env:=(t,.d (.sl es xs))::σ.env,heap:=(r,.dead)::σ.heap,nx:=σ.nx,fr:=σ.fr,dfs:=σ.dfs,base:=σ.base }:=by
 refine Can.fzCore (σ':={ env:=(t,.d (.sl es xs))::σ.env,heap:=(r,.dead)::σ.heap,nx:=σ.nx,fr:=σ.fr,dfs:=σ.dfs,base:=σ.base }) hr ⟨rfl,rfl,rfl,rfl⟩ (fun c a w hR u v hv=>?_) (fun c w h=>?_) (fun r0 b h0=>?_)
 ·simp only at hv ⊢
  rw [look_upd]
  rw [look_cons] at hv
  split at hv
  ·rename_i e;subst e;cases hv
   obtain ⟨cv,h1,h2⟩:=hR.R.env _ _ ht
   exact ⟨cv,h1,h2.fz hR.R.h hr hl⟩
  ·obtain ⟨cv,h1,h2⟩:=hR.R.env _ _ hv
   exact ⟨cv,h1,h2.mono (fun _ _=>rfl) (HStep.fz c _ _ hr)⟩
 ·simp only;rw [look_upd];exact ⟨h.fz hr,HStep.fz c _ _ hr⟩
 ·simp only at h0
  rw [look_cons] at h0
  split at h0
  ·rename_i e;subst e;exact ⟨_,hr⟩
  ·exact ⟨_,h0⟩
theorem Can.fzH (q off r:Nat) {n T T' es:Nat} {cs:List V} {xs:List (List D)} {σ:St} (hq:look σ.heap q=some (.var T' cs)) (hc:cs[off]?=some (.own r n)) (hr:look σ.heap r=some (.row T es xs)) (hl:xs.length=n)
  : Can G nt σ { env:=σ.env,heap:=(q,.var T' (cs.set off (.d (.sl es xs))))::(r,.dead)::σ.heap,nx:=σ.nx,fr:=σ.fr,dfs:=σ.dfs,base:=σ.base }:=by
 have hne:r≠q:=fun e=>by subst e;rw [hr] at hq;cases hq
 have hq':∀ H:Hp,H q=some (.var T' cs)→upd H r .dead q=some (.var T' cs):=fun H h=>(upd_other _ _ _ _ hne).trans h
 have hst:∀ c:Cx,HStep c (look σ.heap) (fun r=>r<σ.nx) (c.fz r) (upd (upd (look σ.heap) r .dead) q (.var T' (cs.set off (.d (.sl es xs))))) (fun r=>r<σ.nx):=fun c=>by
  have h1:=HStep.fz c (look σ.heap) (fun r=>r<σ.nx) hr
  have h2:HStep (c.fz r) (upd (look σ.heap) r .dead) (fun r=>r<σ.nx) (c.fz r) (upd (upd (look σ.heap) r .dead) q (.var T' (cs.set off (.d (.sl es xs))))) (fun r=>r<σ.nx):=HStep.ofSet (hq' _ hq)
  exact ⟨fun r h=>h,rfl,fun g h=>h1.hA g h,fun r0 T0 c0 h0=>by
    obtain ⟨a1,c1,a2⟩:=h1.var _ _ _ h0
    obtain ⟨a3,c2,a4⟩:=h2.var _ _ _ a2
    exact ⟨a3.trans a1,c2,a4⟩,fun r0 T0 es0 xs0 hu h0=>by
    obtain ⟨y1,a1,a2,a3⟩:=h2.row _ _ _ _ hu h0
    obtain ⟨y2,b1,b2,b3⟩:=h1.row _ _ _ _ hu a1
    exact ⟨y2,b1,by omega,fun e=>(a3 (by omega)).trans (b3 (by omega))⟩,fun r0 es0 h0=>by
    obtain ⟨a1,c1,a2⟩:=h1.mp _ _ h0
    obtain ⟨a3,c2,a4⟩:=h2.mp _ _ a2
    exact ⟨a3.trans a1,c2,a4⟩,fun r0 h0=>by
    obtain ⟨a1,a2⟩:=h1.dm _ h0
    obtain ⟨a3,a4⟩:=h2.dm _ a2
    exact ⟨a3.trans a1,a4⟩,fun r0 T0 c0 hu h0=>by
    obtain ⟨y1,a1,a2⟩:=h2.arr _ _ _ hu h0
    obtain ⟨y2,b1,b2⟩:=h1.arr _ _ _ hu a1
    exact ⟨y2,b1,a2.trans b2⟩⟩
 refine Can.fzCore (σ':={ env:=σ.env,heap:=(q,.var T' (cs.set off (.d (.sl es xs))))::(r,.dead)::σ.heap,nx:=σ.nx,fr:=σ.fr,dfs:=σ.dfs,base:=σ.base }) hr ⟨rfl,rfl,rfl,rfl⟩ (fun c a w hR u v hv=>?_) (fun c w h=>?_) (fun r0 b h0=>?_)
 ·simp only at hv ⊢
  rw [look_upd,look_upd]
  obtain ⟨cv,h1,h2⟩:=hR.R.env _ _ hv
  exact ⟨cv,h1,h2.mono (fun _ _=>rfl) (hst c)⟩
 ·simp only
  rw [look_upd,look_upd]
  refine ⟨HRel.retell h (h.fz hr) hq (hq' _ hq) (by simp [Cx.fz,hne]) (by simp) fun j x x' cv hx hx' hv=>?_,hst c⟩
  rw [List.getElem?_set] at hx'
  split at hx'
  ·rename_i e;subst e
   split at hx'<;>cases hx'
   rw [hc] at hx;cases hx
   exact hv.fz h hr hl
  ·rw [hx] at hx';cases hx';exact hv.mono (fun _ _=>rfl) (HStep.fz c _ _ hr)
 ·simp only at h0
  rw [look_cons] at h0
  split at h0
  ·rename_i e;subst e;exact ⟨_,hq⟩
  ·rw [look_cons] at h0
   split at h0
   ·rename_i e;subst e;exact ⟨_,hr⟩
   ·exact ⟨_,h0⟩
end
end Go.Abs
namespace Go.Abs
def appL {α:Type} (bytes:Nat) (xs ys:List α):Option (List α):=bif roomB (xs++ys).length bytes then some (xs++ys) else none
theorem appL_ok {α:Type} {b:Nat} {xs ys l:List α} (h:appL b xs ys=some l):xs++ys=l∧roomB l.length b=true:=by
 unfold appL at h
 cases hr:roomB (xs++ys).length b with
 | true=>rw [hr] at h;cases h;exact ⟨rfl,hr⟩
 | false=>rw [hr] at h;cases h
theorem apz {α β:Type} {b:Nat} {xs ys l:List α} (h:appL b xs ys=some l) (f:α→β):xs.map f++ys.map f=l.map f:=by rw [← List.map_append,(appL_ok h).1]
theorem apr {α β:Type} {b:Nat} {xs ys l:List α} (h:appL b xs ys=some l) (f:α→β):(l.map f).length*b≤140737488355328:=by
 rw [List.length_map];exact Nat.le_of_ble_eq_true (appL_ok h).2
def slcL {α:Type} (xs:List α) (lo hi:Int):Option (List α):=bif decide (0≤lo)&&(decide (lo≤hi)&&decide (hi≤xs.length)) then some ((xs.drop lo.toNat).take (hi.toNat - lo.toNat)) else none
theorem slcL_ok {α:Type} {xs l:List α} {lo hi:Int} (h:slcL xs lo hi=some l):0≤lo∧lo≤hi∧hi≤xs.length∧(xs.drop lo.toNat).take (hi.toNat - lo.toNat)=l:=by
 unfold slcL at h
 cases hr:decide (0≤lo)&&(decide (lo≤hi)&&decide (hi≤xs.length)) with
 | true=>
  rw [hr] at h;cases h
  simp only [Bool.and_eq_true,decide_eq_true_eq] at hr
  exact ⟨hr.1,hr.2.1,hr.2.2,rfl⟩
 | false=>rw [hr] at h;cases h
theorem slz {α β:Type} {xs l:List α} {lo hi:Int} (h:slcL xs lo hi=some l) (f:α→β):((xs.map f).drop lo.toNat).take (hi.toNat - lo.toNat)=l.map f:=by
 rw [← List.map_drop,← List.map_take,(slcL_ok h).2.2.2]
section
variable {P:Program} {G:Gl} {nt:Nat} {F:Fence}
theorem s_slc3n {es:Nat} {x hi mx:Opd} {v:V} {xs:List (List D)} {kh km:IntKind} {h m:Int} {fr:Fr} (hv:DSl es xs v) (h1:0≤h) (h2:h≤xs.length) (hm:m=h) :
  LStp P G nt (.slc es x none (some hi) (some mx)) [(x,v),(hi,.d (.int kh h)),(mx,.d (.int km m))] [] (.fsl es ((xs.drop 0).take (h.toNat - 0))) ⟨[],[]⟩ fr fr:=by
 subst hm
 refine .pure fun U E H o c ac w ht hR hE hH=>?_
 generalize hop:o.op=op at ht
 generalize hlo:(none:Option Opd)=lo' at ht
 generalize hhi:some hi=hi' at ht
 generalize hmx:some mx=mx' at ht
 cases ht with
 | @slc t e j xo lo0 hi0 mx0 _ _ _ _ ht hj hx hl hh hm=>
  have e1:=ev_ok hR hx hE.1
  obtain ⟨a,cp,hav,hcp,hd⟩:=hv.rel e1
  subst hlo hhi hmx
  have get:∀ {y:Option Operand} {z:Opd},trOo y=some (some z)→∃ y',y=some y'∧trO y'=some z:=fun {y z} hy=>by
   cases y with
   | none=>simp [trOo] at hy
   | some y'=>simp only [trOo] at hy;split at hy<;>cases hy;exact ⟨y',rfl,by assumption⟩
  have hl1:lo0=none:=by
   cases lo0 with
   | none=>rfl
   | some y'=>simp only [trOo] at hl;split at hl<;>cases hl
  subst hl1
  obtain ⟨hi1,rfl,hh1⟩:=get hh
  obtain ⟨mx1,rfl,hm1⟩:=get hm
  have eh:=(ev_ok hR hh1 hE.2.1).int_inv
  have em:=(ev_ok hR hm1 hE.2.2.1).int_inv
  have hb:=sub_data hd (l:=0) (h:=m.toNat) (m:=m.toNat) (by omega) (Nat.le_refl _) (by omega) (by omega)
  refine ⟨by simp,.slice (if m.toNat=0 then a else a.map (·.add (0*j.size))) (m.toNat - 0) (m.toNat - 0),?_,?_⟩
  ·have hmc:m≤(cp:Int):=by omega
   have hmm:m≤(m.toNat:Int):=by omega
   simp only [execOp,hop,Instr.sliceAt,run_underlying ht,Sem.run_bind,Result.andThen_ok,hav,eh,em,Option.map_some,Option.map_none,Instr.slice,Instr.sliceBounds,run_bound h1 hmc,run_bound h1 hmm,run_sizeOf hj,Sem.run_pure]
  ·have hlen:((xs.drop 0).take (m.toNat - 0)).length=m.toNat - 0:=by simp;omega
   have:=VRel.fsl (c:=c) (H:=H) (U:=U) (w:=w) j.size ((xs.drop 0).take (m.toNat - 0)) (if m.toNat=0 then a else a.map (·.add (0*j.size))) (by rw [hlen];exact hb)
   rw [hlen] at this;exact this
end
section
variable {P:Program} {G:Gl} {nt:Nat} {F:Fence} {K:St→List SD→Prop} {rest:List IOper} {σ:St} {sds:List SD} {g:Option (Nat×Bool)} {aft:List Nat}
theorem r_apO {t T T' es bytes:Nat} {s x:Opd} {r n q m:Nat} {xs ys zs:List (List D)} (hg:Wants σ g) (hs:ev G (look σ.env) s=some (.own r n)) (hx:ev G (look σ.env) x=some (.own q m)) (hr:look σ.heap r=some (.row T es xs)) (hq:look σ.heap q=some (.row T' es ys)) (hn:xs.length=n) (hm:ys.length=m) (hz:xs++ys=zs) (hb:zs.length*bytes≤140737488355328)
  (k:RunC P G nt K rest ((σ.tn r (.row T es zs)).put (some t) (.own r zs.length)) (sds++[sdOf g [(s,.own r n),(x,.own q m)] [(r,.row T es xs),(q,.row T' es ys)] ⟨[(r,.row T es zs)],[]⟩])):RunC P G nt K (⟨some t,g,.app T es bytes s x,aft⟩::rest) σ sds:=by
 subst hz
 rw [List.length_append] at k hb
 exact r_appO hg hs hx hr hq hn hm hb k
theorem r_apD {t T es bytes:Nat} {s x:Opd} {r n:Nat} {xs ys zs:List (List D)} (hg:Wants σ g) (hs:ev G (look σ.env) s=some (.own r n)) (hx:ev G (look σ.env) x=some (.d (.sl es ys))) (hr:look σ.heap r=some (.row T es xs)) (hn:xs.length=n) (hz:xs++ys=zs) (hb:zs.length*bytes≤140737488355328)
  (k:RunC P G nt K rest ((σ.tn r (.row T es zs)).put (some t) (.own r zs.length)) (sds++[sdOf g [(s,.own r n),(x,.d (.sl es ys))] [(r,.row T es xs)] ⟨[(r,.row T es zs)],[]⟩])):RunC P G nt K (⟨some t,g,.app T es bytes s x,aft⟩::rest) σ sds:=by
 subst hz
 rw [List.length_append] at k hb
 exact r_appD hg hs hx hr hn (.data ys) hb k
theorem r_apF {t T T' es bytes:Nat} {s x:Opd} {q m:Nat} {xs ys zs:List (List D)} (hg:Wants σ g) (hs:ev G (look σ.env) s=some (.fsl es xs)) (hx:ev G (look σ.env) x=some (.own q m)) (hq:look σ.heap q=some (.row T' es ys)) (hm:ys.length=m) (hy:ys≠[]) (hz:xs++ys=zs) (hb:zs.length*bytes≤140737488355328)
  (k:RunC P G nt K rest (σ.nw t (.own σ.nx zs.length) (.row T es zs)) (sds++[sdOf g [(s,.fsl es xs),(x,.own q m)] [(q,.row T' es ys)] ⟨[(σ.nx,.row T es zs)],[σ.nx]⟩])):RunC P G nt K (⟨some t,g,.app T es bytes s x,aft⟩::rest) σ sds:=by
 subst hz
 rw [List.length_append] at k hb
 exact r_appF hg hs hx hq hm hy hb k
theorem r_slN {d:Option Nat} {es:Nat} {x hi mx:Opd} {v:V} {xs zs:List (List D)} {kh km:IntKind} {h m:Int} (hg:Wants σ g) (hx:ev G (look σ.env) x=some v) (hhi:ev G (look σ.env) hi=some (.d (.int kh h))) (hmx:ev G (look σ.env) mx=some (.d (.int km m))) (hv:DSl es xs v) (h1:0≤h) (h2:h≤xs.length) (hm:m=h)
  (hz:(xs.drop (0:Int).toNat).take (h.toNat - (0:Int).toNat)=zs) (k:RunC P G nt K rest (σ.put d (.fsl es zs)) (sds++[sdOf g [(x,v),(hi,.d (.int kh h)),(mx,.d (.int km m))] [] ⟨[],[]⟩])):RunC P G nt K (⟨d,g,.slc es x none (some hi) (some mx),aft⟩::rest) σ sds:=by
 subst hz
 exact .val (s_slc3n hv h1 h2 hm) hg ⟨hx,hhi,hmx,trivial⟩ trivial k
theorem r_idx {d:Option Nat} {n:Nat} {x i:Opd} {cs:List V} {u:V} {k0:IntKind} {p:Int} (hg:Wants σ g) (hx:ev G (look σ.env) x=some (.agg cs)) (hi:ev G (look σ.env) i=some (.d (.int k0 p))) (h0:0≤p) (hn:p.toNat<n) (hu:cs[0+p.toNat*1]?=some u)
  (k:RunC P G nt K rest (σ.put d u) (sds++[sdOf g [(x,.agg cs),(i,.d (.int k0 p))] [] ⟨[],[]⟩])):RunC P G nt K (⟨d,g,.idx n x i,aft⟩::rest) σ sds:=
  .val (s_idx h0 (by omega) (by rw [Nat.zero_add,Nat.mul_one] at hu;exact hu)) hg ⟨hx,hi,trivial⟩ trivial k
theorem r_stX {sz:Nat} {x y:Opd} {r off T:Nat} {cs cs' vs:List V} {u:V} (hg:Wants σ g) (hx:ev G (look σ.env) x=some (.ptr r off)) (hy:ev G (look σ.env) y=some u) (hr:look σ.heap r=some (.var T cs)) (hu:cellsOf u=some vs)
  (hsz:Nat.beq vs.length sz=true) (ho:off+sz≤cs.length) (hz:spl cs off vs=cs') (k:RunC P G nt K rest (σ.tn r (.var T cs')) (sds++[sdOf g [(x,.ptr r off),(y,u)] [(r,.var T cs)] ⟨[(r,.var T cs')],[]⟩])):RunC P G nt K (⟨none,g,.store sz x y,aft⟩::rest) σ sds:=by
 subst hz
 exact .step (s_store hu (Nat.eq_of_beq_eq_true hsz) ho) hg ⟨hx,hy,trivial⟩ ⟨hr,trivial⟩ rfl k
theorem agt {f:Nat→V} {n:Nat} {i:Int} {j:Nat} (h:ixN n i=some j):((List.range n).map f)[0+i.toNat*1]?=some (f j):=by
 obtain ⟨h0,h1,h2⟩:=ixN_ok h
 subst h2
 simp [h1]
theorem aslot {n:Nat} {i:Int} {j:Nat} (h:ixN n i=some j) {cs:List V} (hl:cs.length=n):(0+i.toNat*1)+1≤cs.length:=by
 obtain ⟨h0,h1,h2⟩:=ixN_ok h
 omega
theorem ast {α:Type} {w:Nat→α} {c:α→V} {x:α} {n:Nat} {i:Int} {j:Nat} (h:ixN n i=some j):spl ((List.range n).map fun k=>c (w k)) (0+i.toNat*1) [c x]=(List.range n).map fun k=>c (aset w j x k):=by
 obtain ⟨h0,h1,h2⟩:=ixN_ok h
 subst h2
 refine List.ext_getElem? fun k=>?_
 rw [spl_get _ _ _ (by simp;omega)]
 simp only [List.length_singleton,Nat.zero_add,Nat.mul_one,List.getElem?_map]
 by_cases hk:k=i.toNat
 ·subst hk
  have:(List.range n)[i.toNat]?=some i.toNat:=by simp [h1]
  rw [if_pos ⟨Nat.le_refl _,by omega⟩,this]
  simp [aset]
 ·rw [if_neg (by omega)]
  cases hr:(List.range n)[k]? with
  | none=>rfl
  | some m=>
   have:m=k:=by
    have:=List.getElem?_eq_some_iff.1 hr
    obtain ⟨h3,h4⟩:=this
    simpa using h4.symm
   subst this
   have hb:Nat.beq m i.toNat=false:=by
    cases hb:Nat.beq m i.toNat with
    | true=>exact absurd (Nat.eq_of_beq_eq_true hb) hk
    | false=>rfl
   simp [aset,hb]
theorem Can.ge {σ σa:St} (h:Ge σa σ):Can G nt σa σ:=fun c a w hR=>⟨c,hR.ge h,(Went.refl c σa w).ge h⟩
theorem RunC.auX {K:St→List SD→Prop} {ops:List IOper} {σ:St} {sds:List SD} (n:Nat) (σ1:St) (h:autR G (ops.take n) σ (keysE σ1.env)=some σ1) (k:RunC P G nt (Kc K) (ops.drop n) σ1 (sds++sdsC G (ops.take n) σ)):RunC P G nt (Kc K) ops σ sds:=by
 unfold autR at h
 split at h<;>try (cases h;done)
 rename_i σ' s hr
 split at h<;>cases h
 rename_i e he
 have hs:sdsC G (ops.take n) σ=s:=by unfold sdsC;rw [hr]
 rw [hs] at k
 have hr':=runC_pre hr sds
 rw [List.append_nil] at hr'
 rw [← List.take_append_drop n ops]
 exact runC_ok hr' (RunC.ge k ⟨fun t v hv=>selE_ok he t v hv,(look_normH _).symm,rfl,rfl,rfl,rfl⟩)
theorem RW.cut (hF:FOk F) (n:Nat) {ops:List IOper} {Q:Post} {σ:St} (σ1:St) (h:RunC P G nt (Kc fun σ' _=>Can G nt σ' σ1) (ops.take n) σ []) (k:RW P G nt F (ops.drop n) Q σ1):RW P G nt F ops Q σ:=
 RW.run hF n (RunC.mono h fun σb s hb=>by
  obtain ⟨σx,hg,hc⟩:=hb
  exact RW.can ((Can.ge hg).trans hc) k)
theorem RunC.finJ {σ σ1:St} {sds:List SD} (h:Can G nt σ σ1):RunC P G nt (Kc fun σ' _=>Can G nt σ' σ1) [] σ sds:=.nil ⟨σ,Ge.refl _,h⟩
theorem AW.jq {J R:Type} (st:J→St) {c:Ctl J R} {x:ICode} {Q:Post} {σ:St} (h:AW P G nt F x (thenQ (fun σ'=>∃ j,c=.next j∧Can G nt σ' (st j)) Q) σ) (k:∀ j,c=.next j→Q .normal (st j)):AW P G nt F x Q σ:=by
 refine AW.canQ (h.mono fun e σ1 hq=>?_)
 cases e with
 | normal=>obtain ⟨j,hj,hs⟩:=hq;exact ⟨_,hs,k j hj⟩
 | _=>exact ⟨_,Can.refl _,hq⟩
theorem AW.jqS {J:Type} (st:J→St) {c:J} {x:ICode} {Q:Post} {σ:St} (h:AW P G nt F x (thenQ (fun σ'=>Can G nt σ' (st c)) Q) σ) (k:Q .normal (st c)):AW P G nt F x Q σ:=by
 refine AW.canQ (h.mono fun e σ1 hq=>?_)
 cases e with
 | normal=>exact ⟨_,hq,k⟩
 | _=>exact ⟨_,Can.refl _,hq⟩
def scB (H':List (Nat×Blk)):List (Nat×Blk)→Bool
 | []=>true
 | (q,b)::l=>(match b with
  | .var T _=>match look H' q with | some (.var T' _)=>Nat.beq T T' | _=>false
  | .mp _=>match look H' q with | some (.mp _)=>true | _=>false
  | .dm=>false
  | _=>true)&&scB H' l
theorem scB_ok {H':List (Nat×Blk)}:∀ {l:List (Nat×Blk)},scB H' l=true→(∀ q,look l q≠some .dm)∧(∀ q T cs,look l q=some (.var T cs)→∃ cs',look H' q=some (.var T cs'))∧(∀ q es,look l q=some (.mp es)→∃ es',look H' q=some (.mp es'))
 | [],_=>⟨fun q h=>(by cases h),fun q T cs h=>(by cases h),fun q es h=>(by cases h)⟩
 | (r,b)::l,h=>by
  simp only [scB,Bool.and_eq_true] at h
  obtain ⟨h1,h2⟩:=h
  obtain ⟨i1,i2,i3⟩:=scB_ok h2
  refine ⟨fun q hq=>?_,fun q T cs hq=>?_,fun q es hq=>?_⟩
  all_goals rw [look_cons] at hq
  all_goals split at hq
  ·cases hq;simp at h1
  ·exact i1 q hq
  ·rename_i e;subst e;cases hq
   simp only at h1
   split at h1
   ·rename_i T' cs' h3
    have:=Nat.eq_of_beq_eq_true h1;subst this
    exact ⟨cs',h3⟩
   ·cases h1
  ·exact i2 q T cs hq
  ·rename_i e;subst e;cases hq
   simp only at h1
   split at h1
   ·rename_i es' h3;exact ⟨es',h3⟩
   ·cases h1
  ·exact i3 q es hq
theorem SCall.mk {f:Nat} {fn:Func} {i:IFun} {vs:List V} {H:List (Nat×Blk)} {nx:Nat} {fr:Fr} {r:V} {H':List (Nat×Blk)} {nx':Nat} {fr':Fr} (hf:P.funcs[f]?=some fn) (ht:trF P fn=some i) (hlen:Nat.ble vs.length i.nt=true) (hnx:Nat.ble nx nx'=true) (hb:scB H' H=true)
  (h:AW P G i.nt Fence.wide i.body (retQ i.res r H' nx' fr' nx) ⟨envOf 0 vs,H,nx,fr,[],nx⟩):SCall P G f vs H nx fr r H' nx' fr':=by
 unfold trF at ht
 split at ht
 ·rename_i c hbody
  split at ht
  ·rename_i ic rs h1 h2
   cases ht
   obtain ⟨i1,i2,i3⟩:=scB_ok hb
   exact SCall.of hf hbody (trC_ok h1) (trR_ok h2) (Nat.le_of_ble_eq_true hlen) i1 (Nat.le_of_ble_eq_true hnx) i2 i3 h
  ·cases ht
 ·cases ht
def noRows (nx0:Nat):List (Nat×Blk)→Bool
 | []=>true
 | (q,b)::l=>(!(b.fresh)||Nat.ble nx0 q)&&noRows nx0 l
theorem noRows_ok {nx0:Nat}:∀ {l:List (Nat×Blk)},noRows nx0 l=true→∀ q b,look l q=some b→(∀ T es xs,b=.row T es xs→nx0≤q)∧∀ T cs,b=.arr T cs→nx0≤q
 | [],_,q,b,h=>by cases h
 | (r,x)::l,hl,q,b,h=>by
  simp only [noRows,Bool.and_eq_true,Bool.or_eq_true] at hl
  rw [look_cons] at h
  split at h
  ·rename_i e
   cases h
   subst e
   refine ⟨fun T es xs e'=>?_,fun T cs e'=>?_⟩
   all_goals subst e'
   all_goals rcases hl.1 with h | h
   all_goals first | (simp [Blk.fresh] at h;done) | exact Nat.le_of_ble_eq_true h
  ·exact noRows_ok hl.2 q b h
def dfB (H':List (Nat×Blk)):List Nat→Bool
 | []=>true
 | q::l=>!(hasN q l)&&(!(look H' q).isSome&&dfB H' l)
theorem dfB_ok {H':List (Nat×Blk)}:∀ {l:List Nat},dfB H' l=true→l.Nodup∧∀ q∈l,look H' q=none
 | [],_=>⟨List.nodup_nil,fun q h=>(by cases h)⟩
 | x::l,h=>by
  simp only [dfB,Bool.and_eq_true,Bool.not_eq_true'] at h
  obtain ⟨h1,h2,h3⟩:=h
  obtain ⟨i1,i2⟩:=dfB_ok h3
  refine ⟨List.nodup_cons.2 ⟨hasN_no h1,i1⟩,fun q hq=>?_⟩
  rcases List.mem_cons.1 hq with rfl | hq
  ·simpa using h2
  ·exact i2 q hq
def endB (σ:St) (r:V) (H':List (Nat×Blk)) (nx' nx0:Nat):Bool:=
 Nat.ble nx' σ.nx&&(r.okR nx' (fun q=>(look H' q).isSome)&&(okH nx' (fun q=>(look H' q).isSome) H'&&(noRows nx0 H'&&dfB H' σ.dfs)))
theorem retX {rs:List IRes} {r:V} {H':List (Nat×Blk)} {nx' nx0:Nat} {fr':Fr} {σ:St} {vs:List V} (hv:ResVs σ rs vs) (hz:Frz (hzOf σ.heap H') (retV vs) r) (hfr:σ.fr=fr') (hH:selH σ.heap (keysL H')=some H') (hb:endB σ r H' nx' nx0=true):RetQ rs r H' nx' fr' nx0 σ:=by
 simp only [endB,Bool.and_eq_true] at hb
 obtain ⟨h1,h2,h3,h4,h5⟩:=hb
 exact ⟨dfB_ok h5,⟨vs,hv,.of hz⟩,h2,Nat.le_of_ble_eq_true h1,fun q b hq=>⟨selH_ok hH q b hq,(okH_ok h3 q b hq).1,(okH_ok h3 q b hq).2,noRows_ok h4 q b hq⟩,hfr⟩
def FrzRL (H:Hp):List V→List V→Prop
 | [],[]=>True
 | x::xs,y::ys=>FrzR H x y∧FrzRL H xs ys
 | _,_=>False
theorem FrzRL.get {H:Hp}:∀ {cs cs':List V},FrzRL H cs cs'→cs'.length=cs.length∧∀ (i:Nat) (x y:V),cs[i]?=some x→cs'[i]?=some y→FrzR H x y
 | [],[],_=>⟨rfl,fun i x y hx=>by simp at hx⟩
 | x::xs,y::ys,⟨h,k⟩=>by
  obtain ⟨h1,h2⟩:=FrzRL.get k
  refine ⟨by simp [h1],fun i a b ha hb=>?_⟩
  cases i with
  | zero=>simp at ha hb;subst ha hb;exact h
  | succ i=>exact h2 i a b (by simpa using ha) (by simpa using hb)
theorem FrzR.agg_of {H:Hp} {cs cs':List V} (h:FrzRL H cs cs'):FrzR H (.agg cs) (.agg cs'):=.agg h.get.1 h.get.2
theorem retXM {rs:List IRes} {r:V} {H':List (Nat×Blk)} {nx' nx0:Nat} {fr':Fr} {σ:St} {vs:List V} (hv:ResVs σ rs vs) (hz:FrzR (hzOf σ.heap H') (retV vs) r) (hfr:σ.fr=fr') (hH:selH σ.heap (keysL H')=some H') (hb:endB σ r H' nx' nx0=true):RetQ rs r H' nx' fr' nx0 σ:=by
 simp only [endB,Bool.and_eq_true] at hb
 obtain ⟨h1,h2,h3,h4,h5⟩:=hb
 exact ⟨dfB_ok h5,⟨vs,hv,hz⟩,h2,Nat.le_of_ble_eq_true h1,fun q b hq=>⟨selH_ok hH q b hq,(okH_ok h3 q b hq).1,(okH_ok h3 q b hq).2,noRows_ok h4 q b hq⟩,hfr⟩
end
end Go.Abs
namespace Go.Abs
abbrev I (n:Int):D:=.int .i64 n
def wr (n:Int):Int:=IntKind.i64.wrap n
theorem wr_eq (n:Int):wr n=(n+9223372036854775808) % 18446744073709551616 - 9223372036854775808:=by
 unfold wr;rw [IntKind.wrap_i64]
theorem wr_in {n:Int} (h:-9223372036854775808≤n) (h':n≤9223372036854775807):wr n=n:=by rw [wr_eq];omega
theorem wr_range (x:Int):-9223372036854775808≤wr x∧wr x≤9223372036854775807:=by rw [wr_eq];omega
def arrL (l:List Int):Nat→Int:=fun k=>l.getD k 0
def shl64 (x y:Int):Int:=wr (x*2 ^ (min y.toNat 64))
def shr64 (x y:Int):Int:=x.fdiv (2 ^ (min y.toNat 64))
theorem shl64_ok {x y:Int} (h:0≤y):shR .shl .i64 x y=some (shl64 x y):=by
 simp only [shR,shl64,wr];rw [if_neg (by omega)];rfl
theorem shr64_ok {x y:Int} (h:0≤y):shR .shr .i64 x y=some (shr64 x y):=by
 simp only [shR,shr64];rw [if_neg (by omega)];rfl
def bAnd (x y:Int):Int:=wr (BitVec.ofInt 64 x &&& BitVec.ofInt 64 y).toNat
theorem lenm {α β:Type} {f:α→β} {xs:List α}:((List.map f xs).length:Int)=xs.length:=by rw [List.length_map]
section
variable {P:Program} {G:Gl} {nt:Nat} {F:Fence} {K:St→List SD→Prop} {rest:List IOper} {σ:St} {sds:List SD} {g:Option (Nat×Bool)} {aft:List Nat}
theorem r_lenX {d:Option Nat} {x:Opd} {es:Nat} {xs:List (List D)} {n:Int} (hg:Wants σ g) (hx:ev G (look σ.env) x=some (.d (.sl es xs))) (hn:(xs.length:Int)=n)
  (k:RunC P G nt K rest (σ.put d (.d (.int .i64 n))) (sds++[sdOf g [(x,.d (.sl es xs))] [] ⟨[],[]⟩])):RunC P G nt K (⟨d,g,.len x,aft⟩::rest) σ sds:=by
 subst hn;exact .val s_lenD hg ⟨hx,trivial⟩ trivial k
theorem r_lenY {d:Option Nat} {x:Opd} {r m:Nat} {n:Int} (hg:Wants σ g) (hx:ev G (look σ.env) x=some (.own r m)) (hn:(m:Int)=n)
  (k:RunC P G nt K rest (σ.put d (.d (.int .i64 n))) (sds++[sdOf g [(x,.own r m)] [] ⟨[],[]⟩])):RunC P G nt K (⟨d,g,.len x,aft⟩::rest) σ sds:=by
 subst hn;exact .val s_lenO hg ⟨hx,trivial⟩ trivial k
end
end Go.Abs
namespace Go.Abs
def isNext {S R:Type}:Ctl S R→Bool
 | .next _=>true
 | .brk _=>false
def rndC {A S X:Type} (B:A→S→Option (Ctl S X)) (a:A):Ctl S X→Option (Ctl S X×Bool)
 | .next s=>(B a s).bind fun c=>some (c,isNext c)
 | .brk _=>none
def mfd {K W:Type} (q:K→K→Bool) (k:K):List (K×W)→Nat→Option (Nat×W)
 | [],_=>none
 | p::m,i=>bif q k p.1 then some (i,p.2) else mfd q k m (i+1)
def mget {K W:Type} (q:K→K→Bool) (m:List (K×W)) (k:K):Option W:=(mfd q k m 0).map (·.2)
def mput {K W:Type} (q:K→K→Bool) (m:List (K×W)) (k:K) (w:W):Option (List (K×W)):=bif (mget q m k).isNone then some (m++[(k,w)]) else none
theorem mput_ok {K W:Type} {q:K→K→Bool} {m l:List (K×W)} {k:K} {w:W} (h:mput q m k w=some l):mget q m k=none∧m++[(k,w)]=l:=by
 unfold mput at h
 cases hr:(mget q m k).isNone with
 | true=>rw [hr] at h;cases h;exact ⟨by simpa using hr,rfl⟩
 | false=>rw [hr] at h;cases h
theorem lookD_map {K W:Type} {ks:List Nat} {ek:K→List D} {dv:W→DV} {q:K→K→Bool} (hq:∀ a b,eqDs ks (ek a) (ek b)=some (q a b)) (hl:∀ a,(ek a).length=ks.length) (k:K) :
  ∀ (m:List (K×W)) (i:Nat),lookD ks (m.map fun p=>(DV.a (ek p.1),dv p.2)) (ek k) i=some ((mfd q k m i).map fun p=>(p.1,dv p.2))
 | [],i=>rfl
 | p::m,i=>by
  simp only [List.map_cons,lookD,hq]
  cases h:q k p.1 with
  | true=>simp [mfd,h]
  | false=>
   have:Nat.beq (ek p.1).length ks.length=true:=by rw [hl,Nat.beq_refl]
   simp only [mfd,h,this,cond_true,cond_false]
   exact lookD_map hq hl k m (i+1)
section
variable {P:Program} {G:Gl} {nt:Nat} {F:Fence}
theorem lkvA {W:Type} {z:List D} {cells:W→List D} {zw:W} (hz:z=cells zw) (o:Option (Nat×W)):lookV z true (o.map fun p=>(p.1,DV.a (cells p.2)))=.agg ((cells ((o.map (·.2)).getD zw)).map .d):=by
 subst hz
 cases o<;>rfl
theorem lkvC {W:Type} {z:List D} {cell:W→D} {zw:W} (hz:z=[cell zw]) (o:Option (Nat×W)):lookV z false (o.map fun p=>(p.1,DV.c (cell p.2)))=.d (cell ((o.map (·.2)).getD zw)):=by
 subst hz
 cases o<;>rfl
theorem isS {W:Type} {f:Nat×W→Nat×DV} (o:Option (Nat×W)):(o.map f).isSome=(o.map (·.2)).isSome:=by cases o<;>rfl
end
section
variable {P:Program} {G:Gl} {nt:Nat} {F:Fence} {K:St→List SD→Prop} {rest:List IOper} {σ:St} {sds:List SD} {g:Option (Nat×Bool)} {aft:List Nat}
theorem r_lookC {KT WT:Type} {d:Option Nat} {kt:Nat} {ok:Bool} {z:List D} {x k0:Opd} {r:Nat} {ks:List Nat} (q:KT→KT→Bool) (ek:KT→List D) (cell:WT→D) (m:List (KT×WT)) (key:KT) (zw:WT) (hg:Wants σ g) (hx:ev G (look σ.env) x=some (.map r)) (hk0:ev G (look σ.env) k0=some (.agg ((ek key).map .d)))
  (hr:look σ.heap r=some (.mp (m.map fun p=>(DV.a (ek p.1),DV.c (cell p.2))))) (hf:FlatT P kt ks) (hq:∀ a b,eqDs ks (ek a) (ek b)=some (q a b)) (hl:∀ a,(ek a).length=ks.length) (hz:z=[cell zw])
  (k:RunC P G nt K rest (σ.put d (okV ok (.d (cell ((mget q m key).getD zw))) (mget q m key).isSome)) (sds++[sdOf g [(x,.map r),(k0,.agg ((ek key).map .d))] [(r,.mp (m.map fun p=>(DV.a (ek p.1),DV.c (cell p.2))))] ⟨[],[]⟩])):RunC P G nt K (⟨d,g,.lookup kt ok z false x k0,aft⟩::rest) σ sds:=by
 refine r_lookup hg hx hk0 (unV_map _) hr hf (hl key) (fun i xs v hi=>?_) (lookD_map (dv:=fun w=>DV.c (cell w)) hq hl key m 0) (by rw [hz];simp [dvV]) ?_
 ·rw [List.getElem?_map] at hi
  cases hm:m[i]? with
  | none=>rw [hm] at hi;cases hi
  | some p=>rw [hm] at hi;cases hi;exact hl _
 ·rw [lkvC hz,isS];exact k
theorem r_lookFA {KT WT:Type} {d:Option Nat} {kt:Nat} {ok:Bool} {z:List D} {x k0:Opd} {ks:List Nat} (q:KT→KT→Bool) (ek:KT→List D) (cells:WT→List D) (m:List (KT×WT)) (key:KT) (zw:WT) (hg:Wants σ g) (hx:ev G (look σ.env) x=some (.fmp (m.map fun p=>(DV.a (ek p.1),DV.a (cells p.2))))) (hk0:ev G (look σ.env) k0=some (.agg ((ek key).map .d)))
  (hf:FlatT P kt ks) (hq:∀ a b,eqDs ks (ek a) (ek b)=some (q a b)) (hl:∀ a,(ek a).length=ks.length) (hz:z=cells zw)
  (k:RunC P G nt K rest (σ.put d (okV ok (.agg ((cells ((mget q m key).getD zw)).map .d)) (mget q m key).isSome)) (sds++[sdOf g [(x,.fmp (m.map fun p=>(DV.a (ek p.1),DV.a (cells p.2)))),(k0,.agg ((ek key).map .d))] [] ⟨[],[]⟩])):RunC P G nt K (⟨d,g,.lookup kt ok z true x k0,aft⟩::rest) σ sds:=by
 refine r_lookupF hg hx hk0 (unV_map _) hf (hl key) (fun i xs v hi=>?_) (lookD_map (dv:=fun w=>DV.a (cells w)) hq hl key m 0) (by simp [dvV]) ?_
 ·rw [List.getElem?_map] at hi
  cases hm:m[i]? with
  | none=>rw [hm] at hi;cases hi
  | some p=>rw [hm] at hi;cases hi;exact hl _
 ·rw [lkvA hz,isS];exact k
theorem r_mput {KT WT:Type} {kt:Nat} {m0 k0 x:Opd} {r:Nat} {ks:List Nat} {v:V} (q:KT→KT→Bool) (ek:KT→List D) (dv:WT→DV) {m l:List (KT×WT)} {key:KT} {w:WT} (hg:Wants σ g) (hm:ev G (look σ.env) m0=some (.map r)) (hk0:ev G (look σ.env) k0=some (.agg ((ek key).map .d))) (hx:ev G (look σ.env) x=some v)
  (hr:look σ.heap r=some (.mp (m.map fun p=>(DV.a (ek p.1),dv p.2)))) (hf:FlatT P kt ks) (hq:∀ a b,eqDs ks (ek a) (ek b)=some (q a b)) (hl:∀ a,(ek a).length=ks.length) (hv:dvOf v=some (dv w)) (hp:mput q m key w=some l)
  (k:RunC P G nt K rest (σ.tn r (.mp (l.map fun p=>(DV.a (ek p.1),dv p.2)))) (sds++[sdOf g [(m0,.map r),(k0,.agg ((ek key).map .d)),(x,v)] [(r,.mp (m.map fun p=>(DV.a (ek p.1),dv p.2)))] ⟨[(r,.mp (l.map fun p=>(DV.a (ek p.1),dv p.2)))],[]⟩])):RunC P G nt K (⟨none,g,.mapup kt m0 k0 x,aft⟩::rest) σ sds:=by
 obtain ⟨h1,h2⟩:=mput_ok hp
 subst h2
 rw [List.map_append] at k
 refine r_mapup hg hm hk0 (unV_map _) hx hr hf (hl key) (fun i xs v hi=>?_) ?_ hv k
 ·rw [List.getElem?_map] at hi
  cases hmi:m[i]? with
  | none=>rw [hmi] at hi;cases hi
  | some p=>rw [hmi] at hi;cases hi;exact hl _
 ·rw [lookD_map hq hl key m 0]
  unfold mget at h1
  cases ho:mfd q key m 0 with
  | none=>rfl
  | some p=>rw [ho] at h1;cases h1
end
section
variable {P:Program} {G:Gl} {nt:Nat} {F:Fence}
def lendRB (ρ:Nat→Nat) (n0:Nat) (h0 H0:List (Nat×Blk)):Bool:=
 allL (fun p=>Nat.blt p.1 n0&&(p.2.lend&&(p.2.okR n0 (fun q=>(look H0 q).isSome)&&((p.2.ren ρ).noY&&!(look h0 (ρ p.1)).isSome)))) H0&&allL (fun p=>allL (fun p'=>Nat.beq p.1 p'.1||!(Nat.beq (ρ p.1) (ρ p'.1))) H0) H0
theorem LendR.of {ρ:Nat→Nat} {H0:List (Nat×Blk)} {n0:Nat} {hp h0:List (Nat×Blk)} (hb:lendRB ρ n0 h0 H0=true) (hr:Rds (look hp) (renL ρ H0)):LendR ρ H0 n0 hp h0:=by
 simp only [lendRB,Bool.and_eq_true] at hb
 obtain ⟨h1,h2⟩:=hb
 refine ⟨fun q b hq=>?_,fun q q' hq hq' he=>?_⟩
 ·have hm:=look_mem hq
  have:=allL_ok h1 _ hm
  simp only [Bool.and_eq_true,Bool.not_eq_true'] at this
  obtain ⟨i1,i2,i3,i4,i5⟩:=this
  refine ⟨Nat.le_of_ble_eq_true i1,i2,i3,i4,?_,by simpa using i5⟩
  exact hr.mem (mem_renL hm)
 ·obtain ⟨b,hb⟩:=Option.isSome_iff_exists.1 hq
  obtain ⟨b',hb'⟩:=Option.isSome_iff_exists.1 hq'
  have:=allL_ok (allL_ok h2 _ (look_mem hb)) _ (look_mem hb')
  simp only [Bool.or_eq_true,Bool.not_eq_true'] at this
  rcases this with h | h
  ·exact Nat.eq_of_beq_eq_true h
  ·rw [he,Nat.beq_refl] at h;cases h
def hOf {S X:Type} (hS:S→List (Nat×Blk)) (hX:X→List (Nat×Blk)):Ctl S X→List (Nat×Blk)
 | .next s=>hS s
 | .brk x=>hX x
def pOf {S X:Type} (pX:X→Option Code):Ctl S X→Option Code
 | .next _=>none
 | .brk x=>pX x
theorem AW.rfXW {A S X:Type} {σ:St} {f:Opd} {ps:List Nat} {ia ib:ICode} {Q:Post} {u:V} {gf:Nat} {first caps:List V} (hS:S→List (Nat×Blk)) (hX:X→List (Nat×Blk)) (pX:X→Option Code) (B:A→S→Option (Ctl S X)) (enc:A→List V)
  {s0:S} {out:Ctl S X} (env':List (Nat×V)) (h0:List (Nat×Blk)) (ns:List Nat)
  (hf:ev G (look σ.env) f=some u) (hc:Callee u gf first caps) (hbd:hasBody P gf=true)
  {vs0:List V} {H0 H1:List (Nat×Blk)} {n0:Nat} {r0:V}
  (hsub:keepS σ (keysE env') (keysL h0) σ.nx=some { env:=env',heap:=h0,nx:=σ.nx,fr:=σ.fr,dfs:=σ.dfs,base:=σ.base })
  (spec:∀ fr_:Ctl S X→Fr,(∀ g I c,FrW g I σ.fr→FrW g I (fr_ c))→(∀ a s s' b,rndC B a s=some (s',b)→YCall P G (fr_ s) (enc a) (.d (.bool b)) (fr_ s'))→SCall P G gf vs0 H0 n0 (fr_ (.next s0)) r0 H1 n0 (fr_ out))
  (hl:lendRB (rnm ns σ.nx) n0 h0 H0=true) (hrd:Rds (look σ.heap) (renL (rnm ns σ.nx) H0))
  (hvs:first++[.yld]++caps=V.ren.rens (rnm ns σ.nx) vs0) (hny:V.noY.noYs first=true∧V.noY.noYs caps=true) (hok:V.okR.okRs n0 (fun q=>(look H0 q).isSome) vs0=true)
  (hs0:hS s0=(σ.nx,.dm)::h0) (hps:∀ a,ps.length=(enc a).length) (hisd:∀ a,V.isD.isDs (enc a)=true)
  (round:∀ a s c,B a s=some c→∀ l,AW P G nt (Fence.wide.inRound l) ia (thenQ (AW P G nt (Fence.wide.inRound l) ib (fun e σ'=>∃ σ1,Can G nt σ' σ1∧RdQ (σ.nx+1) σ.fr (hS s) (hOf hS hX c) (pOf pX c) e σ1)) (fun _ _=>False)) ⟨zipE ps (enc a) env',hS s,σ.nx+1,σ.fr,[],σ.nx+1⟩)
  (hpX:∀ x,(pX x).isNone=false)
  (hk:pendQ Q (pOf pX out) { env:=env',heap:=hOf hS hX out,nx:=σ.nx+1,fr:=σ.fr,dfs:=σ.nx::σ.dfs,base:=σ.base }):AW P G nt Fence.wide (.rfun f ps ia ib) Q σ:=by
 refine AW.rfunW (r0:=r0) (H1:=H1) (ρ:=rnm ns σ.nx) hf hc hbd (keepS_ok hsub) (LendR.of hl hrd) hvs hny hok (fun W hWf hY=>?_) hk
 have:=spec (fun c=>W (hOf hS hX c) (pOf pX c)) (fun g I c hW=>hWf g I _ _ hW) (fun a s s' b h=>?_)
 ·simp only [hOf,pOf,hs0] at this
  exact this
 ·cases s with
  | brk x=>cases h
  | next s=>
   simp only [rndC] at h
   obtain ⟨c,hc',h2⟩:=bsome h
   cases h2
   have hy:=hY (hS s) (enc a) (hOf hS hX s') (pOf pX s') (hps a) (hisd a) (fun l=>(round a s s' hc' l).mono fun e σ' hq=>(by
    cases e with
    | normal=>exact AW.canQ hq
    | _=>exact hq))
   have e:(pOf pX s').isNone=isNext s':=by
    cases s' with
    | next s=>rfl
    | brk x=>exact hpX x
   rw [e] at hy
   exact hy
theorem AW.rfX {A S X:Type} {σ:St} {f:Opd} {ps:List Nat} {ia ib:ICode} {Q:Post} {u:V} {gf:Nat} {first caps:List V} (hS:S→List (Nat×Blk)) (hX:X→List (Nat×Blk)) (pX:X→Option Code) (B:A→S→Option (Ctl S X)) (enc:A→List V)
  {s0:S} {out:Ctl S X} (env':List (Nat×V)) (h0:List (Nat×Blk)) (ns:List Nat)
  (hf:ev G (look σ.env) f=some u) (hc:Callee u gf first caps) (hbd:hasBody P gf=true)
  {vs0:List V} {H0 H1:List (Nat×Blk)} {n0:Nat} {r0:V}
  (hsub:keepS σ (keysE env') (keysL h0) σ.nx=some { env:=env',heap:=h0,nx:=σ.nx,fr:=σ.fr,dfs:=σ.dfs,base:=σ.base })
  (spec:∀ fr_:Ctl S X→Fr,(∀ a s s' b,rndC B a s=some (s',b)→YCall P G (fr_ s) (enc a) (.d (.bool b)) (fr_ s'))→SCall P G gf vs0 H0 n0 (fr_ (.next s0)) r0 H1 n0 (fr_ out))
  (hl:lendRB (rnm ns σ.nx) n0 h0 H0=true) (hrd:Rds (look σ.heap) (renL (rnm ns σ.nx) H0))
  (hvs:first++[.yld]++caps=V.ren.rens (rnm ns σ.nx) vs0) (hny:V.noY.noYs first=true∧V.noY.noYs caps=true) (hok:V.okR.okRs n0 (fun q=>(look H0 q).isSome) vs0=true)
  (hs0:hS s0=(σ.nx,.dm)::h0) (hps:∀ a,ps.length=(enc a).length) (hisd:∀ a,V.isD.isDs (enc a)=true)
  (round:∀ a s c,B a s=some c→∀ l,AW P G nt (Fence.wide.inRound l) ia (thenQ (AW P G nt (Fence.wide.inRound l) ib (fun e σ'=>∃ σ1,Can G nt σ' σ1∧RdQ (σ.nx+1) σ.fr (hS s) (hOf hS hX c) (pOf pX c) e σ1)) (fun _ _=>False)) ⟨zipE ps (enc a) env',hS s,σ.nx+1,σ.fr,[],σ.nx+1⟩)
  (hpX:∀ x,(pX x).isNone=false)
  (hk:pendQ Q (pOf pX out) { env:=env',heap:=hOf hS hX out,nx:=σ.nx+1,fr:=σ.fr,dfs:=σ.nx::σ.dfs,base:=σ.base }):AW P G nt Fence.wide (.rfun f ps ia ib) Q σ:=
 AW.rfXW hS hX pX B enc env' h0 ns hf hc hbd hsub (fun fr_ _ hY=>spec fr_ hY) hl hrd hvs hny hok hs0 hps hisd round hpX hk
theorem rdX {nx:Nat} {fr:Fr} {h h':List (Nat×Blk)} {pend:Option Code} {e:Exit} {σ:St} (he:rdE e pend) (hfr:σ.fr=fr) (hH:selH σ.heap (keysL h')=some h') (hb:(okH nx (fun q=>(look h' q).isSome) h'&&allL (fun p=>(look h' p.1).isSome) h)=true):RdQ nx fr h h' pend e σ:=by
 simp only [Bool.and_eq_true] at hb
 refine ⟨he,hfr,fun r b hr=>⟨selH_ok hH r b hr,(okH_ok hb.1 r b hr).1,(okH_ok hb.1 r b hr).2⟩,fun r hr=>?_⟩
 obtain ⟨b,hb'⟩:=Option.isSome_iff_exists.1 hr
 exact allL_ok hb.2 _ (look_mem hb')
end
end Go.Abs
namespace Go.Abs
def catV (a b:List V):List V:=a++b
section
variable {P:Program} {nt:Nat} {G:Gl} {F:Fence}
theorem AW.seqK {x y:ICode} {Q:Post} {σ:St} (h:∀ K:St→Prop,(∀ σ1,AW P G nt F y Q σ1→K σ1)→AW P G nt F x (thenQ K Q) σ):AW P G nt F (.seq x y) Q σ:=AW.seq (h _ fun _ h=>h)
theorem AW.jnK {J R:Type} (st:J→St) {c:Ctl J R} {x y:ICode} {Q:Post} {σ:St} (h:∀ K:St→Prop,(∀ j σ',c=.next j→Can G nt σ' (st j)→K σ')→AW P G nt F x (thenQ K Q) σ) (k:∀ j,c=.next j→AW P G nt F y Q (st j)):AW P G nt F (.seq x y) Q σ:=
 AW.jn st (h _ fun j _ h1 h2=>⟨j,h1,h2⟩) k
theorem AW.jnSK {J:Type} (st:J→St) {c:J} {x y:ICode} {Q:Post} {σ:St} (h:∀ K:St→Prop,(∀ σ',Can G nt σ' (st c)→K σ')→AW P G nt F x (thenQ K Q) σ) (k:AW P G nt F y Q (st c)):AW P G nt F (.seq x y) Q σ:=
 AW.jnS st (h _ fun _ h=>h) k
theorem AW.jqK {J R:Type} (st:J→St) {c:Ctl J R} {x:ICode} {Q:Post} {σ:St} (h:∀ K:St→Prop,(∀ j σ',c=.next j→Can G nt σ' (st j)→K σ')→AW P G nt F x (thenQ K Q) σ) (k:∀ j,c=.next j→Q .normal (st j)):AW P G nt F x Q σ:=
 AW.jq st (h _ fun j _ h1 h2=>⟨j,h1,h2⟩) k
theorem AW.jqSK {J:Type} (st:J→St) {c:J} {x:ICode} {Q:Post} {σ:St} (h:∀ K:St→Prop,(∀ σ',Can G nt σ' (st c)→K σ')→AW P G nt F x (thenQ K Q) σ) (k:Q .normal (st c)):AW P G nt F x Q σ:=
 AW.jqS st (h _ fun _ h=>h) k
theorem AW.evCK {α S R:Type} (st:Int→S→St) (f:Int→α→S→Option (Ctl S R)) {xs:List α} {s0:S} {out:Ctl S R} {x:ICode} {Q:Post} {σ:St} (h:eachC f xs 0 s0=some out) (hs:Can G nt σ (st 0 s0))
  (body:∀ (i:Int) p s,0≤i→i<xs.length→xs[i.toNat]?=some p→∀ c,f i p s=some c→(∀ r,c=.brk r→out=.brk r)→∀ K:St→Prop,(∀ s' σ',c=.next s'→Can G nt σ' (st (i+1) s')→K σ')→AW P G nt F x (thenQ K Q) (st i s))
  (done:∀ (i:Int) s,0≤i→(xs.length:Int)≤i→out=.next s→AW P G nt F x (thenQ (fun _=>False) Q) (st i s)):AW P G nt F (.loop x) Q σ:=
 AW.evC st f h hs (fun i p s h1 h2 h3 c h4 h5=>body i p s h1 h2 h3 c h4 h5 _ fun s' _ e h=>⟨s',e,h⟩) done
theorem AW.evSK {α S:Type} (st:Int→S→St) (f:Int→α→S→Option S) {xs:List α} {s0 out:S} {x:ICode} {Q:Post} {σ:St} (h:eachS f xs 0 s0=some out) (hs:Can G nt σ (st 0 s0))
  (body:∀ (i:Int) p s,0≤i→i<xs.length→xs[i.toNat]?=some p→∀ c,f i p s=some c→∀ K:St→Prop,(∀ σ',Can G nt σ' (st (i+1) c)→K σ')→AW P G nt F x (thenQ K Q) (st i s))
  (done:∀ (i:Int) s,0≤i→(xs.length:Int)≤i→s=out→AW P G nt F x (thenQ (fun _=>False) Q) (st i s)):AW P G nt F (.loop x) Q σ:=
 AW.evS st f h hs (fun i p s h1 h2 h3 c h4=>body i p s h1 h2 h3 c h4 _ fun _ h=>h) done
theorem AW.lpCK {S R:Type} (st:Int→S→St) (f:Int→S→Option (Ctl S R)) (N:Int) {i0:Int} {s0:S} {out:Ctl S R} {x:ICode} {Q:Post} {σ:St} (h:forC f (N - i0).toNat i0 s0=some out) (hs:Can G nt σ (st i0 s0))
  (body:∀ i s,i0≤i→i<N→∀ c,f i s=some c→(∀ r,c=.brk r→out=.brk r)→∀ K:St→Prop,(∀ s' σ',c=.next s'→Can G nt σ' (st (i+1) s')→K σ')→AW P G nt F x (thenQ K Q) (st i s))
  (done:∀ i s,i0≤i→N≤i→out=.next s→AW P G nt F x (thenQ (fun _=>False) Q) (st i s)):AW P G nt F (.loop x) Q σ:=
 AW.lpC st f N h hs (fun i s h1 h2 c h4 h5=>body i s h1 h2 c h4 h5 _ fun s' _ e h=>⟨s',e,h⟩) done
theorem AW.lpSK {S:Type} (st:Int→S→St) (f:Int→S→Option S) (N:Int) {i0:Int} {s0 out:S} {x:ICode} {Q:Post} {σ:St} (h:forS f (N - i0).toNat i0 s0=some out) (hs:Can G nt σ (st i0 s0))
  (body:∀ i s,i0≤i→i<N→∀ c,f i s=some c→∀ K:St→Prop,(∀ σ',Can G nt σ' (st (i+1) c)→K σ')→AW P G nt F x (thenQ K Q) (st i s))
  (done:∀ i s,i0≤i→N≤i→s=out→AW P G nt F x (thenQ (fun _=>False) Q) (st i s)):AW P G nt F (.loop x) Q σ:=
 AW.lpS st f N h hs (fun i s h1 h2 c h4=>body i s h1 h2 c h4 _ fun _ h=>h) done
theorem AW.whK {S R:Type} (st:S→St) (f:S→Option (Ctl S R)) {n:Nat} {s0:S} {out:R} {x:ICode} {Q:Post} {σ:St} (h:whileC f n s0=some out) (hs:Can G nt σ (st s0))
  (body:∀ s c,f s=some c→(∀ r,c=.brk r→r=out)→∀ K:St→Prop,(∀ s' σ',c=.next s'→Can G nt σ' (st s')→K σ')→AW P G nt F x (thenQ K Q) (st s)):AW P G nt F (.loop x) Q σ:=
 AW.wh st f h hs (fun s c h4 h5=>body s c h4 h5 _ fun s' _ e h=>⟨s',e,h⟩)
theorem SCall.mkK {f:Nat} {fn:Func} {i:IFun} {vs:List V} {H:List (Nat×Blk)} {nx:Nat} {fr:Fr} {r:V} {H':List (Nat×Blk)} {nx':Nat} {fr':Fr} (hf:P.funcs[f]?=some fn) (ht:trF P fn=some i) (hlen:Nat.ble vs.length i.nt=true) (hnx:Nat.ble nx nx'=true) (hb:scB H' H=true)
  (h:∀ Q:Post,(∀ σ,RetQ i.res r H' nx' fr' nx σ→Q .ret σ)→(∀ σ,RetQ i.res r H' nx' fr' nx σ→Q .normal σ)→AW P G i.nt Fence.wide i.body Q ⟨envOf 0 vs,H,nx,fr,[],nx⟩):SCall P G f vs H nx fr r H' nx' fr':=
 SCall.mk hf ht hlen hnx hb (h _ (fun _ h=>h) (fun _ h=>h))
theorem AW.srwK {ops:List IOper} {y:ICode} {Q:Post} {σ:St} (h:∀ Q':Post,(∀ σ1,AW P G nt F y Q σ1→Q' .normal σ1)→RW P G nt F ops Q' σ):AW P G nt F (.seq (.reg false ops) y) Q σ:=AW.seq (AW.regW (h _ fun _ h=>h))
theorem AW.sdrwK (hF:FOk F) {ops:List IOper} {y:ICode} {Q:Post} {σ:St} (h:∀ Q':Post,(∀ σ1,AW P G nt F y Q σ1→Q' .normal σ1)→RunC P G nt (Kd ops Q') ops σ []):AW P G nt F (.seq (.reg true ops) y) Q σ:=AW.seq (AW.drw hF (h _ fun _ h=>h))
end
end Go.Abs
