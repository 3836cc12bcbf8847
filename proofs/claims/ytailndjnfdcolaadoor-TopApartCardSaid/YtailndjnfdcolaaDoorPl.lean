/- Plain laws. Conditions: none. -/
import Derived.Test.YtailndjnfdcolaaDoorAr
set_option linter.unusedVariables false
set_option linter.unusedSimpArgs false
namespace Go.Proofs.YtailndjnfdcolaaDoor
open Go.Abs Go.Proofs.Ta
theorem bsm {α β:Type} (a:α) (f:α→Option β):(some a).bind f=f a:=rfl
theorem eachS_all {α:Type} {f:Int→α→Bool→Option Bool} {p:α→Bool} (h:∀ i x s,f i x s=some (s&&p x)):∀ (xs:List α) (i:Int) (s:Bool),eachS f xs i s=some (s&&xs.all p)
 | [],i,s=>by simp [eachS]
 | x::xs,i,s=>by rw [eachS,h,bsm,eachS_all h xs];simp [Bool.and_assoc]
def rg (n a b:Int):Bool:=decide (a≤n)&&decide (n≤b)
theorem while_all {α:Type} {f:Bool×Int→Option (Ctl (Bool×Int) Bool)} {p:α→Bool} {xs:List α} (hl:xs.length<900)
  (h0:∀ i,f (false,i)=some (.brk false)) (h1:f (true,(xs.length:Int))=some (.brk true))
  (h:∀ (i:Nat) x,xs[i]?=some x→f (true,(i:Int))=some (.next (p x,((i+1:Nat):Int)))) :
  ∀ (n i:Nat),i+n=xs.length→∀ k,n+2≤k→whileC f k (true,(i:Int))=some ((xs.drop i).all p)
 | 0,i,hi,k,hk=>by
  obtain ⟨k,rfl⟩:∃ k',k=k'+1:=⟨k - 1,by omega⟩
  have:i=xs.length:=by omega
  subst this
  rw [whileC,h1];simp
 | n+1,i,hi,k,hk=>by
  obtain ⟨k,rfl⟩:∃ k',k=k'+1:=⟨k - 1,by omega⟩
  have hlt:i<xs.length:=by omega
  rw [whileC,h i _ (List.getElem?_eq_getElem hlt),bsm,List.drop_eq_getElem_cons hlt,List.all_cons]
  cases hp:p xs[i] with
  | false=>
   obtain ⟨k,rfl⟩:∃ k',k=k'+1:=⟨k - 1,by omega⟩
   simp only;rw [whileC,h0];rfl
  | true=>simp only;rw [while_all hl h0 h1 h n (i+1) (by omega) k (by omega)];simp
theorem wr_nat {i:Nat} (h:i<1000):wr ((i:Int)+1)=((i+1:Nat):Int):=by rw [wr_in (by omega) (by omega)];simp
theorem ixL_nat {α:Type} (xs:List α) (i:Nat):ixL xs (i:Int)=xs[i]?:=by
 unfold ixL
 have:decide (0≤(i:Int))=true:=by simp
 rw [this];simp
theorem rg_iff {n a c:Int}:rg n a c=true↔a≤n∧n≤c:=by simp [rg]
theorem must_t {x:Bool} (h:x=true):must x=some ():=by subst h;rfl
def firstI (p:Int→Bool):Nat→Int→Option Int
 | 0,_=>none
 | n+1,i=>bif p i then some i else firstI p n (i+1)
theorem firstI_none {p:Int→Bool}:∀ {n:Nat} {i:Int},firstI p n i=none↔∀ j,i≤j→j<i+n→p j=false
 | 0,i=>⟨fun _ j h1 h2=>by omega,fun _=>rfl⟩
 | n+1,i=>by
  rw [firstI]
  cases h0:p i with
  | true=>exact ⟨fun h=>by (cases h),fun h=>by have:=h i (by omega) (by omega);rw [h0] at this;cases this⟩
  | false=>
   rw [cond_false,firstI_none]
   constructor
   ·intro h j h1 h2
    by_cases e:j=i
    ·rw [e];exact h0
    ·exact h j (by omega) (by omega)
   ·intro h j h1 h2;exact h j (by omega) (by omega)
theorem firstI_some {p:Int→Bool}:∀ {n:Nat} {i j:Int},firstI p n i=some j→i≤j∧j<i+n∧p j=true∧∀ k,i≤k→k<j→p k=false
 | 0,i,j,h=>by cases h
 | n+1,i,j,h=>by
  rw [firstI] at h
  cases h0:p i with
  | true=>rw [h0] at h;cases h;exact ⟨by omega,by omega,h0,fun k h1 h2=>by omega⟩
  | false=>
   rw [h0,cond_false] at h
   obtain ⟨h1,h2,h3,h4⟩:=firstI_some h
   refine ⟨by omega,by omega,h3,fun k hk hk'=>?_⟩
   by_cases e:k=i
   ·rw [e];exact h0
   ·exact h4 k (by omega) hk'
theorem forC_first {S R:Type} {f:Int→S→Option (Ctl S R)} (I:S→Prop) (p:Int→Bool) (r:Int→R):∀ (n:Nat) (i:Int) (s:S),I s →
  (∀ j s,i≤j→j<i+n→I s→∃ s',I s'∧f j s=some (bif p j then .brk (r j) else .next s')) →
  ∃ s',I s'∧forC f n i s=some (match firstI p n i with | some j=>.brk (r j) | none=>.next s')
 | 0,i,s,hs,h=>⟨s,hs,rfl⟩
 | n+1,i,s,hs,h=>by
  obtain ⟨s1,h1,e1⟩:=h i s (by omega) (by omega) hs
  rw [forC,e1,bsm,firstI]
  cases p i with
  | true=>exact ⟨s1,h1,rfl⟩
  | false=>exact forC_first I p r n (i+1) s1 h1 (fun j s k1 k2=>h j s (by omega) (by omega))
theorem forC_firstU {R:Type} {f:Int→Unit→Option (Ctl Unit R)} (p:Int→Bool) (r:Int→R) (n:Nat) (i:Int) (h:∀ j,i≤j→j<i+n→f j ()=some (bif p j then .brk (r j) else .next ())) :
  forC f n i ()=some (match firstI p n i with | some j=>.brk (r j) | none=>.next ()):=by
 obtain ⟨s,_,e⟩:=forC_first (fun _=>True) p r n i () trivial (fun j s h1 h2 _=>⟨(),trivial,h j h1 h2⟩)
 exact e
theorem roomB_ok {n b:Nat} (h:n*b≤140737488355328):roomB n b=true:=Nat.ble_eq_true_of_le h
theorem appL_ok {α:Type} {sz:Nat} {l m:List α} (h:(l++m).length*sz≤140737488355328):appL sz l m=some (l++m):=by
 unfold appL
 rw [roomB_ok h];rfl
theorem slcL_all {α:Type} (l:List α):slcL l 0 (l.length:Int)=some l:=by
 unfold slcL
 have:(decide ((0:Int)≤0)&&(decide ((0:Int)≤(l.length:Int))&&decide ((l.length:Int)≤(l.length:Int))))=true:=by simp
 rw [this];simp
theorem forS_inv {S:Type} {f:Int→S→Option S} (I:Int→S→Prop):∀ (n:Nat) (i:Int) (s:S),I i s→(∀ j s,i≤j→j<i+n→I j s→∃ s',f j s=some s'∧I (j+1) s')→∃ s',forS f n i s=some s'∧I (i+n) s'
 | 0,i,s,hs,h=>⟨s,rfl,by simpa using hs⟩
 | n+1,i,s,hs,h=>by
  obtain ⟨s1,e1,h1⟩:=h i s (by omega) (by omega) hs
  obtain ⟨s2,e2,h2⟩:=forS_inv I n (i+1) s1 h1 (fun j s k1 k2=>h j s (by omega) (by omega))
  refine ⟨s2,by rw [forS,e1,bsm,e2],?_⟩
  rw [show i+((n+1:Nat):Int)=i+1+(n:Int) by omega]
  exact h2
theorem ixN_nat {n i:Nat} (h:i<n):ixN n (i:Int)=some i:=by
 unfold ixN
 have:(decide (0≤(i:Int))&&Nat.blt (i:Int).toNat n)=true:=by simp [h,Nat.blt_eq]
 rw [this];simp
theorem mfd_append {K W:Type} (q:K→K→Bool) (k k':K) (w:W):∀ (m:List (K×W)) (i:Nat),(mfd q k (m++[(k',w)]) i).map (·.2)=match (mfd q k m i).map (·.2) with
  | some v=>some v
  | none=>bif q k k' then some w else none
 | [],i=>by
  simp only [List.nil_append,mfd]
  cases q k k'<;>rfl
 | p::m,i=>by
  simp only [List.cons_append,mfd]
  cases q k p.1 with
  | true=>rfl
  | false=>simp only [cond_false];exact mfd_append q k k' w m (i+1)
theorem mget_append {K W:Type} (q:K→K→Bool) (m:List (K×W)) (k k':K) (w:W):mget q (m++[(k',w)]) k=match mget q m k with
  | some v=>some v
  | none=>bif q k k' then some w else none:=mfd_append q k k' w m 0
theorem told_ok:g5=some true:=by kernel_rfl
end Go.Proofs.YtailndjnfdcolaaDoor
namespace Go.Proofs.YtailndjnfdcolaaDoor
open Go.Abs Go.Proofs.Ta
def okRow (R:Int) (l:List Int):Bool:=decide ((l.length:Int)=R)&&l.all fun n=>rg n 1 15
def chkB (b:DappleBook):Bool:=rg b.Round 1 8&&rg (b.Horses.length:Int) 1 6&&b.Horses.all (okRow b.Round)
def okS (b:DappleBook):Bool:=chkB b&&rg b.Round 1 6&&rg (b.Horses.length:Int) 1 5
theorem q28 (n a c:Int):g28 n a c=some (rg n a c):=rfl
theorem q14 (n a c:Int):g14 n a c=some (rg n a c):=rfl
theorem q13_17 (i x:Int) (s:Bool):g13_17 i x s=some (s&&rg x 1 15):=by cases s<;>rfl
theorem q13_8 (b:DappleBook) (i:Int) (x:List Int) (s:Bool):g13_8 b i x s=some (s&&okRow b.Round x):=by
 unfold g13_8 okRow
 cases s<;>simp only [cond_true,cond_false,bsm]<;>rw [eachS_all q13_17]<;>simp [bsm]
theorem q13 (b:DappleBook):g13 b=some (bif chkB b then 0 else 70):=by
 unfold g13 chkB
 rw [q28,bsm]
 cases h1:rg b.Round 1 8<;>simp only [cond_true,cond_false,bsm,q28]
 ·rw [eachS_all (q13_8 b),bsm];simp
 ·rw [eachS_all (q13_8 b),bsm]
  rw [Bool.true_and]
  cases rg (b.Horses.length:Int) 1 6&&b.Horses.all (okRow b.Round)<;>rfl
theorem sm_in {b:DappleBook} {p:List Int} (hl:(p.length:Int)=b.Round) (h9:p.length<900):whileC (g4_21 b p) 1000 (true,0)=some (p.all fun n=>rg n 1 15):=by
 have:=while_all (f:=g4_21 b p) (p:=fun n=>rg n 1 15) (xs:=p) h9 (fun i=>rfl) (by
  unfold g4_21
  have:decide ((p.length:Int)<b.Round)=false:=by simp;omega
  simp only [this,Bool.and_false,cond_false]) (fun i x hx=>by
  have hi:i<p.length:=(List.getElem?_eq_some_iff.1 hx).1
  unfold g4_21
  have:decide ((i:Int)<b.Round)=true:=by simp;omega
  simp only [this,Bool.and_self,cond_true]
  rw [ixL_nat,hx,bsm,q14,bsm,wr_nat (by omega)]) p.length 0 (by omega) 1000 (by omega)
 simpa using this
theorem small_ok (b:DappleBook):g4 b=some (okS b):=by
 unfold g4 okS
 rw [q13,bsm]
 cases hc:chkB b with
 | false=>
  rfl
 | true=>
  simp only [cond_true,decide_true,bsm,q14]
  cases h1:rg b.Round 1 6 with
  | false=>rfl
  | true=>
   simp only [cond_true,bsm]
   cases h2:rg (b.Horses.length:Int) 1 5 with
   | false=>rfl
   | true=>
    have hb:=rg_iff.1 h2
    have hR:=rg_iff.1 h1
    unfold chkB at hc
    simp only [Bool.and_eq_true] at hc
    have hall:=hc.2
    rw [List.all_eq_true] at hall
    have:=while_all (f:=g4_11 b) (p:=okRow b.Round) (xs:=b.Horses) (by omega) (fun i=>rfl) (by
     unfold g4_11
     have:decide ((b.Horses.length:Int)<b.Horses.length)=false:=by simp
     simp only [this,cond_true,bsm,cond_false]) (fun i x hx=>by
     have hi:i<b.Horses.length:=(List.getElem?_eq_some_iff.1 hx).1
     have ho:=hall x (List.mem_of_getElem? hx)
     rw [ho]
     unfold okRow at ho
     simp only [Bool.and_eq_true,decide_eq_true_eq] at ho
     unfold g4_11
     have:decide ((i:Int)<b.Horses.length)=true:=by simp;omega
     simp only [this,cond_true,bsm]
     rw [ixL_nat,hx,bsm,show decide ((x.length:Int)=b.Round)=true by simpa using ho.1,sm_in ho.1 (by omega),bsm,bsm,ho.2,wr_nat (by omega)]) b.Horses.length 0 (by omega) 1000 (by omega)
    have e:(b.Horses.drop 0).all (okRow b.Round)=true:=by rw [List.drop_zero,List.all_eq_true];exact hall
    rw [e] at this
    rw [show ((0:Nat):Int)=0 from rfl] at this
    rw [this];rfl
structure Sm (b:DappleBook):Prop where
 r1:1≤b.Round
 r6:b.Round≤6
 n1:1≤b.Horses.length
 n5:b.Horses.length≤5
 row:∀ l,l∈b.Horses→(l.length:Int)=b.Round∧∀ n,n∈l→1≤n∧n≤15
theorem sm_of {b:DappleBook} (h:okS b=true):Sm b∧g13 b=some 0:=by
 have hc:chkB b=true:=by unfold okS at h;simp only [Bool.and_eq_true] at h;exact h.1.1
 refine ⟨?_,by rw [q13,hc];rfl⟩
 unfold okS at h
 simp only [Bool.and_eq_true] at h
 have h1:=rg_iff.1 h.1.2
 have h2:=rg_iff.1 h.2
 unfold chkB at hc
 simp only [Bool.and_eq_true] at hc
 have hall:=List.all_eq_true.1 hc.2
 refine ⟨h1.1,h1.2,by omega,by omega,fun l hl=>?_⟩
 have:=hall l hl
 unfold okRow at this
 simp only [Bool.and_eq_true,decide_eq_true_eq,List.all_eq_true] at this
 exact ⟨this.1,fun n hn=>rg_iff.1 (this.2 n hn)⟩
theorem arrL_snoc (l:List Int) (x:Int) (h:l.length<100):aset (arrL l) l.length x=arrL (l++[x]):=by
 funext k
 unfold aset arrL
 by_cases hk:k=l.length
 ·subst hk
  simp
 ·rw [show Nat.beq k l.length=false by cases hb:Nat.beq k l.length with | true=>exact absurd (Nat.eq_of_beq_eq_true hb) hk | false=>rfl,cond_false]
  by_cases h1:k<l.length
  ·simp [List.getD_eq_getElem?_getD,List.getElem?_append_left h1]
  ·simp only [List.getD_eq_getElem?_getD]
   rw [List.getElem?_eq_none (by omega),List.getElem?_eq_none (by simp;omega)]
theorem q30_loop:∀ (xs acc:List Int),acc.length+xs.length≤8→eachS g30_5 xs (acc.length:Int) (arrL acc)=some (arrL (acc++xs))
 | [],acc,h=>by simp [eachS]
 | x::xs,acc,h=>by
  simp only [List.length_cons] at h
  have e:g30_5 (acc.length:Int) x (arrL acc)=some (arrL (acc++[x])):=by
   unfold g30_5
   rw [ixN_nat (show acc.length<8 by omega),bsm,arrL_snoc acc x (by omega)]
  rw [eachS,e,bsm]
  have:=q30_loop xs (acc++[x]) (by simp;omega)
  rw [show (((acc++[x]).length:Nat):Int)=(acc.length:Int)+1 by simp] at this
  rw [show acc++x::xs=acc++[x]++xs by simp]
  exact this
theorem arr0:(arrL [0,0,0,0,0,0,0,0]:Nat→Int)=arrL []:=by
 funext k
 unfold arrL
 match k with
 | 0 | 1 | 2 | 3 | 4 | 5 | 6 | 7=>rfl
 | n+8=>rfl
theorem q30 {l:List Int} (h:l.length≤8):g30 l=some (arrL l):=by
 unfold g30 g43
 rw [bsm,arr0]
 have:=q30_loop l [] (by simpa using h)
 rw [show (((([]:List Int).length:Nat)):Int)=0 from rfl,List.nil_append] at this
 rw [this];rfl
theorem q22_loop:∀ (xs:List (List Int)) (i:Int) (acc:List (Nat→Int)),(∀ l,l∈xs→l.length≤8)→acc.length+xs.length≤8→eachS g22_5 xs i acc=some (acc++xs.map arrL)
 | [],i,acc,_,_=>by simp [eachS]
 | x::xs,i,acc,hx,h=>by
  simp only [List.length_cons] at h
  have e:g22_5 i x acc=some (acc++[arrL x]):=by
   unfold g22_5
   rw [q30 (hx x (by simp)),bsm,Go.Proofs.YtailndjnfdcolaaDoor.appL_ok (by simp;omega),bsm]
  rw [eachS,e,bsm,q22_loop xs _ _ (fun l hl=>hx l (by simp [hl])) (by simp;omega)]
  simp
def m0:List (Dapple_turn×Bool):=[(⟨-1,-1,-1⟩,false)]
theorem q22 {b:DappleBook} (h:Sm b):g22 b=some (b,b.Horses.map arrL,m0):=by
 unfold g22
 have:=h.n5;have:=h.r6
 rw [show mput q87 ([]:List (Dapple_turn×Bool)) (Dapple_turn.mk (-1) (-1) (-1)) false=some m0 from rfl,bsm,q22_loop b.Horses 0 [] (fun l hl=>by have:=(h.row l hl).1;omega) (by simp;omega)]
 rfl
end Go.Proofs.YtailndjnfdcolaaDoor
namespace Go.Proofs.YtailndjnfdcolaaDoor
open Go.Abs Go.Proofs.Ta
def castL (l:List Nat):List Int:=l.map fun (n:Nat)=>(n:Int)
theorem mem_castL {l:List Nat} {n:Nat}:(n:Int)∈castL l↔n∈l:=by
 unfold castL
 rw [List.mem_map]
 constructor
 ·rintro ⟨m,h,e⟩;have:m=n:=by omega
  rw [← this];exact h
 ·intro h;exact ⟨n,h,rfl⟩
def al1 (R:Nat) (r s:Nat→Int) (y k:Nat):Bool:=decide (bAnd (r ((k+y) % R)) (s k)≠0)
def alk (R:Nat) (r s:Nat→Int) (y:Nat):Bool:=(List.range R).all (al1 R r s y)
def sameB (R:Nat) (r s:Nat→Int):Bool:=(List.range R).any (alk R r s)
theorem q34_7 {S_:Type} {b:DappleBook} {R:Nat} (hR:b.Round=(R:Int)) (h1:1≤R) (h6:R≤6) (r s:Nat→Int) (y k:Nat) (hy:y<R) (hk:k<R) (st:S_) :
  g34_7 b r s (y:Int) st (k:Int) ()=some (bif (!al1 R r s y k) then .brk (.next st) else .next ()):=by
 have hm:(k+y) % R<R:=Nat.mod_lt _ (by omega)
 unfold g34_7
 rw [hR,must_t (by simp;omega),bsm,wr_in (by omega) (by omega)]
 rw [show ((k:Int)+(y:Int)).tmod (R:Int)=(((k+y) % R:Nat):Int) by
  rw [Int.tmod_eq_emod_of_nonneg (by omega)];simp]
 rw [ixN_nat (by omega),bsm,ixN_nat (by omega),bsm]
 show (some (decide _)).bind _=_
 rw [bsm]
 show (bif (!al1 R r s y k) then _ else _)=_
 cases al1 R r s y k<;>rfl
theorem first_all {R:Nat} {r s:Nat→Int} {y:Nat}:(firstI (fun k=>!al1 R r s y k.toNat) R 0).isNone=alk R r s y:=by
 cases h:firstI (fun k=>!al1 R r s y k.toNat) R 0 with
 | none=>
  have:=firstI_none.1 h
  symm
  show alk R r s y=true
  unfold alk
  rw [List.all_eq_true]
  intro k hk
  have hk:=List.mem_range.1 hk
  have:=this (k:Int) (by omega) (by omega)
  simpa using this
 | some j=>
  obtain ⟨h1,h2,h3,_⟩:=firstI_some h
  symm
  show alk R r s y=false
  unfold alk
  rw [List.all_eq_false]
  exact ⟨j.toNat,List.mem_range.2 (by omega),by simpa using h3⟩
theorem q34_2 {S_:Type} {b:DappleBook} {R:Nat} (hR:b.Round=(R:Int)) (h1:1≤R) (h6:R≤6) (c_:Int→S_→Option (S_×Bool)) (r s:Nat→Int) (y:Nat) (hy:y<R) (st:S_) :
  g34_2 c_ b r s (y:Int) st=bif alk R r s y then (c_ (y:Int) st).bind fun q=>some (bif q.2 then .next q.1 else .brk (.brk q.1)) else some (.next st):=by
 unfold g34_2
 rw [hR,must_t (by simp;omega),bsm]
 rw [show ((R:Int) - 0).toNat=R by omega]
 rw [forC_firstU (fun k=>!al1 R r s y k.toNat) (fun _=>.next st) R 0 (fun j h1 h2=>by
  have:=q34_7 hR (by omega) h6 r s y j.toNat hy (by omega) st
  rw [show ((j.toNat:Nat):Int)=j by omega] at this
  rw [this])]
 rw [← first_all]
 cases firstI (fun k=>!al1 R r s y k.toNat) R 0 with
 | some j=>rfl
 | none=>
  simp only [Option.isNone_none,cond_true,bindC]
  cases c_ (y:Int) st with
  | none=>rfl
  | some q=>obtain ⟨q1,q2⟩:=q;cases q2<;>rfl
theorem q7_loop {b:DappleBook} {R:Nat} (hR:b.Round=(R:Int)) (h1:1≤R) (h6:R≤6) (r s:Nat→Int):∀ (d i:Nat) (acc:List Int),i+d=R→acc.length≤i →
  forC (g34_2 (fun a s=>rndC g7_r15 a s) b r s) d (i:Int) (.next acc)=some (.next (.next (acc++castL ((List.range' i d).filter (alk R r s)))))
 | 0,i,acc,_,_=>by simp [forC,castL]
 | d+1,i,acc,hi,ha=>by
  have e:g34_2 (fun a s=>rndC g7_r15 a s) b r s (i:Int) (.next acc)=some (.next (.next (bif alk R r s i then acc++[(i:Int)] else acc))):=by
   rw [q34_2 hR h1 h6 _ r s i (by omega)]
   cases alk R r s i with
   | false=>rfl
   | true=>
    simp only [cond_true,rndC]
    unfold g7_r15
    rw [Go.Proofs.YtailndjnfdcolaaDoor.appL_ok (by simp;omega)]
    rfl
  rw [forC,e,bsm,List.range'_succ,List.filter_cons]
  have h2:=q7_loop hR h1 h6 r s d (i+1) (bif alk R r s i then acc++[(i:Int)] else acc) (by omega) (by cases alk R r s i<;>simp<;>omega)
  rw [show (((i+1:Nat)):Int)=(i:Int)+1 by omega] at h2
  simp only
  rw [h2]
  cases alk R r s i<;>simp [castL]
theorem q34_turns {b:DappleBook} {R:Nat} (hR:b.Round=(R:Int)) (h1:1≤R) (h6:R≤6) (rows:List (Nat→Int)) (r s:Nat→Int) :
  g34 (fun a s=>rndC g7_r15 a s) b rows r s (.next ([]:List Int))=some (.next (castL ((List.range R).filter (alk R r s)))):=by
 unfold g34
 rw [hR,must_t (by simp;omega),bsm,show ((R:Int) - 0).toNat=R by omega]
 have:=q7_loop hR h1 h6 r s R 0 [] (by omega) (by simp)
 rw [show (((0:Nat)):Int)=0 from rfl] at this
 rw [this,List.nil_append,← List.range_eq_range']
 rfl
theorem q42_loop {b:DappleBook} {R:Nat} (hR:b.Round=(R:Int)) (h1:1≤R) (h6:R≤6) (r s:Nat→Int):∀ (d i:Nat),i+d=R →
  forC (g34_2 (fun a s=>rndC g42_r8 a s) b r s) d (i:Int) (.next ())=some (bif (List.range' i d).any (alk R r s) then .brk (.brk (.brk ())) else .next (.next ()))
 | 0,i,_=>by simp [forC]
 | d+1,i,hi=>by
  have e:g34_2 (fun a s=>rndC g42_r8 a s) b r s (i:Int) (.next ())=some (bif alk R r s i then .brk (.brk (.brk ())) else .next (.next ())):=by
   rw [q34_2 hR h1 h6 _ r s i (by omega)]
   cases alk R r s i with
   | false=>rfl
   | true=>rfl
  rw [forC,e,bsm,List.range'_succ,List.any_cons]
  cases alk R r s i with
  | true=>rfl
  | false=>
   have h2:=q42_loop hR h1 h6 r s d (i+1) (by omega)
   rw [show (((i+1:Nat)):Int)=(i:Int)+1 by omega] at h2
   simp only [cond_false,Bool.false_or]
   rw [h2]
theorem q42 {b:DappleBook} {R:Nat} (hR:b.Round=(R:Int)) (h1:1≤R) (h6:R≤6) (rows:List (Nat→Int)) (r s:Nat→Int) (h0:r 0≠0):g42 b rows r s=some (sameB R r s):=by
 unfold g42
 rw [show g43=some (arrL [0,0,0,0,0,0,0,0]) from rfl,bsm]
 have:((r 0)==(arrL [0,0,0,0,0,0,0,0] 0))=false:=by
  rw [beq_eq_false_iff_ne];exact h0
 rw [this]
 simp only [Bool.false_and,bne_self_eq_false,cond_false]
 rw [show g21 b rows r s=some (b,rows,r,s) from rfl,bsm]
 have e:g34 (fun a s=>rndC g42_r8 a s) b rows r s (.next ())=some (bif sameB R r s then .brk () else .next ()):=by
  unfold g34
  rw [hR,must_t (by simp;omega),bsm,show ((R:Int) - 0).toNat=R by omega]
  have:=q42_loop hR h1 h6 r s R 0 (by omega)
  rw [show (((0:Nat)):Int)=0 from rfl] at this
  rw [this,← List.range_eq_range']
  unfold sameB
  cases (List.range R).any (alk R r s)<;>rfl
 simp only
 rw [e]
 cases sameB R r s<;>rfl
theorem bAnd_comm (x y:Int):bAnd x y=bAnd y x:=by unfold bAnd;rw [BitVec.and_comm]
theorem alk_back {R:Nat} (h1:1≤R) {r s:Nat→Int} {y:Nat} (hy:y<R) (h:alk R r s y=true):alk R s r ((R - y) % R)=true:=by
 unfold alk at h ⊢
 rw [List.all_eq_true] at h ⊢
 intro k hk
 have hk:=List.mem_range.1 hk
 have hj:(k+(R - y) % R) % R<R:=Nat.mod_lt _ (by omega)
 have:=h _ (List.mem_range.2 hj)
 unfold al1 at this ⊢
 have e:((k+(R - y) % R) % R+y) % R=k:=by
  rw [Nat.mod_add_mod,Nat.add_right_comm,Nat.add_mod_mod,show k+y+(R - y)=k+R by omega,Nat.add_mod_right,Nat.mod_eq_of_lt hk]
 rw [e] at this
 rw [bAnd_comm]
 exact this
end Go.Proofs.YtailndjnfdcolaaDoor
namespace Go.Proofs.YtailndjnfdcolaaDoor
open Go.Abs Go.Proofs.Ta
def rwF (b:DappleBook) (k:Nat):Nat→Int:=arrL ((b.Horses[k]?).getD [])
def sm (b:DappleBook) (i k:Nat):Bool:=sameB b.Round.toNat (rwF b i) (rwF b k)
theorem q87_iff (x y:Dapple_turn):q87 x y=true↔x=y:=by
 cases x;cases y
 simp [q87]
def MapOk (b:DappleBook) (m:List (Dapple_turn×Bool)):Prop:=∀ (i k:Nat) (v:Bool),mget q87 m ⟨(i:Int),(k:Int),0⟩=some v→v=sm b i k
theorem m0_ok (b:DappleBook):MapOk b m0:=by
 intro i k v h
 have:mget q87 m0 ⟨(i:Int),(k:Int),0⟩=none:=by
  unfold mget m0
  simp only [mfd]
  have:q87 ⟨(i:Int),(k:Int),0⟩ ⟨-1,-1,-1⟩=false:=by
   cases hq:q87 ⟨(i:Int),(k:Int),0⟩ ⟨-1,-1,-1⟩ with
   | false=>rfl
   | true=>rw [q87_iff] at hq;cases hq
  rw [this];rfl
 rw [this] at h;cases h
theorem sm_row {b:DappleBook} (h:Sm b) {k:Nat} (hk:k<b.Horses.length):(b.Horses.map arrL)[k]?=some (rwF b k)∧rwF b k 0≠0:=by
 have e:b.Horses[k]?=some b.Horses[k]:=List.getElem?_eq_getElem hk
 refine ⟨by rw [List.getElem?_map,e];unfold rwF;rw [e];rfl,?_⟩
 unfold rwF
 rw [e,Option.getD_some]
 obtain ⟨hl,hv⟩:=h.row _ (List.mem_of_getElem? e)
 have hr:=h.r1
 unfold arrL
 have h0:0<b.Horses[k].length:=by omega
 rw [List.getD_eq_getElem?_getD,List.getElem?_eq_getElem h0,Option.getD_some]
 have:=hv _ (List.getElem_mem h0)
 omega
theorem q38 {b:DappleBook} (h:Sm b) {m:List (Dapple_turn×Bool)} (hm:MapOk b m) {i k:Nat} (hik:i<k) (hk:k<b.Horses.length):∃ m',g38c b (b.Horses.map arrL) (i:Int) (k:Int) 0 m=some (sm b i k,m')∧MapOk b m':=by
 unfold g38c
 have e0:((i:Int)==-1)=false:=by rw [beq_eq_false_iff_ne];omega
 rw [e0]
 simp only [Bool.false_and,bne_self_eq_false,Bool.false_or]
 cases hg:mget q87 m (Dapple_turn.mk (i:Int) (k:Int) 0) with
 | some v=>
  have:=hm i k v hg
  exact ⟨m,by simp only [Option.isSome_some,cond_true,Option.getD_some,this],hm⟩
 | none=>
  simp only [Option.isSome_none,cond_false]
  have hR:b.Round=(b.Round.toNat:Int):=by have:=h.r1;omega
  rw [show min (i:Int) (k:Int)=(i:Int) by omega,show max (i:Int) (k:Int)=(k:Int) by omega,ixL_nat,(sm_row h (by omega)).1,bsm,ixL_nat,(sm_row h hk).1,bsm]
  rw [show ixN 2 0=some 0 from rfl,bsm]
  simp only
  rw [q42 hR (by have:=h.r1;omega) (by have:=h.r6;omega) _ _ _ (sm_row h (by omega)).2,bsm]
  refine ⟨m++[(⟨(i:Int),(k:Int),0⟩,sm b i k)],?_,?_⟩
  ·unfold mput
   rw [hg];rfl
  ·intro i' k' v hv
   rw [mget_append] at hv
   cases hg':mget q87 m ⟨(i':Int),(k':Int),0⟩ with
   | some w=>rw [hg'] at hv;simp only at hv;cases hv;exact hm _ _ _ hg'
   | none=>
    rw [hg'] at hv
    simp only at hv
    cases hq:q87 ⟨(i':Int),(k':Int),0⟩ ⟨(i:Int),(k:Int),0⟩ with
    | false=>rw [hq] at hv;cases hv
    | true=>
     rw [hq] at hv;cases hv
     rw [q87_iff] at hq
     injection hq with h1 h2 h3
     have e1:i'=i:=by omega
     have e2:k'=k:=by omega
     rw [e1,e2]
theorem q48_loop (v:Int):∀ (xs:List Int) (i:Nat),∃ c,eachC (g48_3 v) xs (i:Int) ()=some c∧(match c with | .next _=>v ∉ xs | .brk r=>v∈xs∧0≤r)
 | [],i=>⟨.next (),rfl,by simp⟩
 | x::xs,i=>by
  obtain ⟨c,e,hc⟩:=q48_loop v xs (i+1)
  rw [eachC]
  unfold g48_3
  by_cases hv:v=x
  ·refine ⟨.brk (i:Int),?_,by simp [hv],by omega⟩
   rw [show decide (v=x)=true by simp [hv]];rfl
  ·refine ⟨c,?_,?_⟩
   ·rw [show decide (v=x)=false by simp [hv],cond_false,bsm]
    rw [show (((i+1:Nat)):Int)=(i:Int)+1 by omega] at e
    exact e
   ·cases c with
    | next s=>simp only at hc ⊢;simp [hv,hc]
    | brk r=>simp only at hc ⊢;exact ⟨by simp [hc.1],hc.2⟩
theorem q37 (s:List Int) (v:Int):g37 s v=some (decide (v∈s)):=by
 unfold g37 g48
 obtain ⟨c,e,hc⟩:=q48_loop v s 0
 rw [show (((0:Nat)):Int)=0 from rfl] at e
 rw [e]
 cases c with
 | next u=>simp only [bindC] at hc ⊢;simp [bsm,hc]
 | brk r=>simp only [bindC] at hc ⊢;simp [bsm,hc.1,hc.2]
def bad (b:DappleBook) (but:List Int) (k i:Nat):Bool:=!decide ((i:Int)∈but)&&!decide ((k:Int)∈but)&&sm b i k
theorem q24_9 {b:DappleBook} (h:Sm b) (but:List Int) {m:List (Dapple_turn×Bool)} (hm:MapOk b m) {i k:Nat} (hik:i<k) (hk:k<b.Horses.length) :
  ∃ m',MapOk b m'∧g24a_9 b (b.Horses.map arrL) but (k:Int) (i:Int) m=some (bif bad b but k i then .brk (.brk (.brk (.brk (.brk (.brk (false,m')))))) else .next m'):=by
 unfold g24a_9 bad
 rw [q37,bsm]
 cases h1:decide ((i:Int)∈but) with
 | true=>exact ⟨m,hm,rfl⟩
 | false=>
  simp only [Bool.not_false,cond_true,q37,bsm]
  cases h2:decide ((k:Int)∈but) with
  | true=>exact ⟨m,hm,rfl⟩
  | false=>
   obtain ⟨m',e,hm'⟩:=q38 h hm hik hk
   simp only [Bool.not_false,cond_true,e,bsm,Bool.true_and]
   refine ⟨m',hm',?_⟩
   cases sm b i k<;>rfl
theorem q24_in {b:DappleBook} (h:Sm b) (but:List Int) {k:Nat} (hk:k<b.Horses.length):∀ (d i:Nat) (m:List (Dapple_turn×Bool)),MapOk b m→i+d=k →
  ∃ m',MapOk b m'∧forC (g24a_9 b (b.Horses.map arrL) but (k:Int)) d (i:Int) m=some (bif (List.range' i d).any (bad b but k) then .brk (.brk (.brk (.brk (.brk (.brk (false,m')))))) else .next m')
 | 0,i,m,hm,_=>⟨m,hm,rfl⟩
 | d+1,i,m,hm,hi=>by
  obtain ⟨m1,h1,e1⟩:=q24_9 h but hm (i:=i) (k:=k) (by omega) hk
  rw [forC,e1,bsm,List.range'_succ,List.any_cons]
  cases bad b but k i with
  | true=>exact ⟨m1,h1,rfl⟩
  | false=>
   obtain ⟨m2,h2,e2⟩:=q24_in h but hk d (i+1) m1 h1 (by omega)
   rw [show (((i+1:Nat)):Int)=(i:Int)+1 by omega] at e2
   exact ⟨m2,h2,by simp only [cond_false,Bool.false_or];rw [e2]⟩
theorem q24_4 {b:DappleBook} (h:Sm b) (but:List Int) {k:Nat} (hk:k<b.Horses.length) (p:Nat→Int) {m:List (Dapple_turn×Bool)} (hm:MapOk b m) :
  ∃ m',MapOk b m'∧g24a_4 b (b.Horses.map arrL) but (k:Int) p m=some (bif (List.range k).any (bad b but k) then .brk (.brk (.brk (false,m'))) else .next m'):=by
 obtain ⟨m1,h1,e1⟩:=q24_in h but hk k 0 m hm (by omega)
 rw [show (((0:Nat)):Int)=0 from rfl,← List.range_eq_range'] at e1
 unfold g24a_4
 have:=h.n5
 rw [must_t (by simp;omega),bsm,show ((k:Int) - 0).toNat=k by omega,e1]
 refine ⟨m1,h1,?_⟩
 cases (List.range k).any (bad b but k)<;>rfl
def badB (b:DappleBook) (but:List Int):Bool:=(List.range b.Horses.length).any fun k=>(List.range k).any (bad b but k)
theorem q24_loop {b:DappleBook} (h:Sm b) (but:List Int):∀ (xs:List (Nat→Int)) (k:Nat) (m:List (Dapple_turn×Bool)),MapOk b m→k+xs.length=b.Horses.length →
  ∃ m',MapOk b m'∧eachC (g24a_4 b (b.Horses.map arrL) but) xs (k:Int) m=some (bif (List.range' k xs.length).any (fun k=>(List.range k).any (bad b but k)) then .brk (.brk (.brk (false,m'))) else .next m')
 | [],k,m,hm,_=>⟨m,hm,rfl⟩
 | x::xs,k,m,hm,hk=>by
  simp only [List.length_cons] at hk
  obtain ⟨m1,h1,e1⟩:=q24_4 h but (k:=k) (by omega) x hm
  rw [eachC,e1,bsm,List.length_cons,List.range'_succ,List.any_cons]
  cases (List.range k).any (bad b but k) with
  | true=>exact ⟨m1,h1,rfl⟩
  | false=>
   obtain ⟨m2,h2,e2⟩:=q24_loop h but xs (k+1) m1 h1 (by omega)
   rw [show (((k+1:Nat)):Int)=(k:Int)+1 by omega] at e2
   exact ⟨m2,h2,by simp only [cond_false,Bool.false_or];rw [e2]⟩
theorem q24 {b:DappleBook} (h:Sm b) (but:List Int) {m:List (Dapple_turn×Bool)} (hm:MapOk b m):∃ m',MapOk b m'∧g24a b (b.Horses.map arrL) but m=some (!badB b but,m'):=by
 obtain ⟨m1,h1,e1⟩:=q24_loop h but (b.Horses.map arrL) 0 m hm (by simp)
 rw [show (((0:Nat)):Int)=0 from rfl,List.length_map,← List.range_eq_range'] at e1
 refine ⟨m1,h1,?_⟩
 unfold g24a badB
 rw [e1]
 cases (List.range b.Horses.length).any (fun k=>(List.range k).any (bad b but k))<;>rfl
theorem bad_of {b:DappleBook} {but:List Int} (h:badB b but=false) {i k:Nat} (hik:i<k) (hk:k<b.Horses.length) (hi:(i:Int) ∉ but) (hk':(k:Int) ∉ but):sm b i k=false:=by
 unfold badB at h
 rw [List.any_eq_false] at h
 have:=h k (List.mem_range.2 hk)
 rw [Bool.not_eq_true,List.any_eq_false] at this
 have:=this i (List.mem_range.2 hik)
 unfold bad at this
 simpa [hi,hk'] using this
theorem q47 (x y:Int):∃ r,g47 x y=some r:=by
 unfold g47
 rw [show g52 x=some (decide (x≠x)) from rfl,bsm,show g52 y=some (decide (y≠y)) from rfl,bsm]
 simp only [ne_eq,not_true_eq_false,decide_false,cond_false]
 cases decide (x<y)<;>cases decide (y<x)<;>exact ⟨_,rfl⟩
theorem q36_loop (s2:List Int):∀ (xs:List Int) (i:Nat),∃ c,eachC (g36_3 s2) xs (i:Int) ()=some c
 | [],i=>⟨_,rfl⟩
 | x::xs,i=>by
  rw [eachC]
  unfold g36_3
  by_cases hv:(s2.length:Int)≤(i:Int)
  ·rw [show decide ((s2.length:Int)≤(i:Int))=true by simpa using hv];exact ⟨_,rfl⟩
  ·rw [show decide ((s2.length:Int)≤(i:Int))=false by simpa using hv,cond_false,ixL_nat,List.getElem?_eq_getElem (by omega),bsm]
   obtain ⟨r,e⟩:=q47 x (s2[i]'(by omega))
   rw [e,bsm]
   cases decide (r≠0) with
   | true=>exact ⟨_,rfl⟩
   | false=>
    obtain ⟨c,hc⟩:=q36_loop s2 xs (i+1)
    rw [show (((i+1:Nat)):Int)=(i:Int)+1 by omega] at hc
    exact ⟨c,hc⟩
theorem q35 (l m:List Int):∃ r,g35 l m=some r:=by
 unfold g35
 cases decide ((l.length:Int)<(m.length:Int)) with
 | true=>exact ⟨_,rfl⟩
 | false=>
  cases decide ((l.length:Int)=(m.length:Int)) with
  | false=>exact ⟨_,rfl⟩
  | true=>
   have:∃ r,g36 l m=some r:=by
    unfold g36
    obtain ⟨c,hc⟩:=q36_loop m l 0
    rw [show (((0:Nat)):Int)=0 from rfl] at hc
    rw [hc]
    cases c with
    | brk r=>exact ⟨_,rfl⟩
    | next s=>cases decide ((l.length:Int)<(m.length:Int))<;>simp only [bindC]<;>exact ⟨_,rfl⟩
   obtain ⟨r,e⟩:=this
   simp only [cond_false,cond_true,e,bsm]
   exact ⟨_,rfl⟩
def bitP (v:Int) (k:Nat):Bool:=decide ((bAnd (shr64 v (k:Int)) 1)=1)
theorem q8_16 (v:Int):∀ (xs:List (List Int)) (i:Nat) (acc:List Int),acc.length+xs.length≤100→eachS (g8_16 v) xs (i:Int) acc=some (acc++castL ((List.range' i xs.length).filter (bitP v)))
 | [],i,acc,_=>by simp [eachS,castL]
 | x::xs,i,acc,h=>by
  simp only [List.length_cons] at h
  have e:g8_16 v (i:Int) x acc=some (bif bitP v i then acc++[(i:Int)] else acc):=by
   unfold g8_16
   rw [must_t (by simp),bsm]
   show (bif bitP v i then _ else _)=_
   cases bitP v i with
   | false=>rfl
   | true=>
    simp only [cond_true]
    rw [Go.Proofs.YtailndjnfdcolaaDoor.appL_ok (by simp;omega)];rfl
  have h2:=q8_16 v xs (i+1) (bif bitP v i then acc++[(i:Int)] else acc) (by cases bitP v i<;>simp<;>omega)
  rw [show (((i+1:Nat)):Int)=(i:Int)+1 by omega] at h2
  rw [eachS,e,bsm,h2,List.length_cons,List.range'_succ,List.filter_cons]
  cases bitP v i<;>simp [castL]
theorem bit_all:((List.range 6).all fun n=>(List.range n).all fun k=>bitP (((2 ^ n:Nat):Int) - 1) k)=true:=by kernel_rfl
def Best (b:DappleBook) (best:List Int):Prop:=∃ l:List Nat,best=castL l∧l.Pairwise (·<·)∧∀ x,x∈l→x<b.Horses.length
theorem best_nil (b:DappleBook):Best b []:=⟨[],rfl,.nil,by simp⟩
theorem best_filter (b:DappleBook) (p:Nat→Bool):Best b (castL ((List.range b.Horses.length).filter p)):=
 ⟨_,rfl,(List.pairwise_lt_range).filter _,fun x hx=>List.mem_range.1 (List.mem_filter.1 hx).1⟩
theorem shl_pow:((List.range 6).all fun n=>decide (shl64 1 (n:Int)=((2 ^ n:Nat):Int)))=true:=by kernel_rfl
theorem q8 {b:DappleBook} (h:Sm b) (hc:g13 b=some 0):∃ best,g8 b=some (best,0)∧Best b best∧badB b best=false:=by
 have hn5:=h.n5
 unfold g8
 rw [hc,bsm]
 simp only [ne_eq,not_true_eq_false,decide_false,cond_false]
 rw [q22 h,bsm]
 simp only
 rw [must_t (by simp),bsm]
 have hp:shl64 1 (b.Horses.length:Int)=((2 ^ b.Horses.length:Nat):Int):=by
  have:=List.all_eq_true.1 shl_pow b.Horses.length (List.mem_range.2 (by omega))
  simpa using this
 have h32:2 ^ b.Horses.length≤32:=by
  have:2 ^ b.Horses.length≤2 ^ 5:=Nat.pow_le_pow_right (by omega) hn5
  omega
 have hpos:0<2 ^ b.Horses.length:=Nat.pos_of_ne_zero (by simp)
 have hcast:((2 ^ b.Horses.length:Nat):Int)≤9223372036854775807:=Int.le_trans (Int.ofNat_le.2 h32) (by decide)
 rw [hp,must_t (decide_eq_true hcast),bsm,show ((((2 ^ b.Horses.length:Nat):Int)) - 0).toNat=2 ^ b.Horses.length by omega]
 obtain ⟨s,e,hI⟩:=forS_inv (f:=g8_10 b b (b.Horses.map arrL)) (fun (v:Int) (s:List Int×Bool×List (Dapple_turn×Bool))=>MapOk b s.2.2∧Best b s.1∧(s.2.1=true→badB b s.1=false)∧(v=((2 ^ b.Horses.length:Nat):Int)→s.2.1=true))
  (2 ^ b.Horses.length) 0 ([],false,m0) ⟨m0_ok b,best_nil b,by simp,by intro h;omega⟩ (fun v s hv1 hv2 hs=>by
   obtain ⟨best,found,m⟩:=s
   obtain ⟨hm,hb,hf,hz⟩:=hs
   simp only at hm hb hf hz
   unfold g8_10
   simp only
   have e1:=q8_16 v b.Horses 0 [] (by simp;omega)
   rw [show (((0:Nat)):Int)=0 from rfl,List.nil_append,← List.range_eq_range'] at e1
   rw [e1,bsm]
   obtain ⟨r,er⟩:=q35 (castL ((List.range b.Horses.length).filter (bitP v))) best
   have e2:(bif !found then some true else g23.bind fun _=>(g35 (castL ((List.range b.Horses.length).filter (bitP v))) best).bind fun r0=>some r0)=some (!found||r):=by
    rw [er]
    cases found<;>rfl
   rw [e2,bsm]
   obtain ⟨m1,hm1,e3⟩:=q24 h (castL ((List.range b.Horses.length).filter (bitP v))) hm
   have hlast:v+1=((2 ^ b.Horses.length:Nat):Int)→badB b (castL ((List.range b.Horses.length).filter (bitP v)))=false:=by
    intro hv
    have hv':v=((2 ^ b.Horses.length:Nat):Int) - 1:=by omega
    have hall:=List.all_eq_true.1 (List.all_eq_true.1 bit_all b.Horses.length (List.mem_range.2 (by omega)))
    unfold badB
    rw [List.any_eq_false]
    intro k hk
    rw [Bool.not_eq_true,List.any_eq_false]
    intro i hi
    have hk:=List.mem_range.1 hk
    have hi:=List.mem_range.1 hi
    have hm:(k:Int)∈castL ((List.range b.Horses.length).filter (bitP v)):=by
     rw [mem_castL,List.mem_filter]
     refine ⟨List.mem_range.2 hk,?_⟩
     rw [hv']
     exact hall k (List.mem_range.2 hk)
    unfold bad
    simp [hm]
   cases hf0:(!found||r) with
   | false=>
    simp only [cond_false,bsm]
    refine ⟨_,rfl,hm,hb,hf,fun _=>?_⟩
    cases found with
    | true=>rfl
    | false=>simp at hf0
   | true=>
    simp only [cond_true,bsm]
    rw [e3]
    simp only [bsm]
    cases hbad:badB b (castL ((List.range b.Horses.length).filter (bitP v))) with
    | false=>exact ⟨_,rfl,hm1,best_filter b _,fun _=>hbad,fun _=>rfl⟩
    | true=>
     refine ⟨_,rfl,hm1,hb,hf,fun hv=>?_⟩
     have:=hlast hv
     rw [hbad] at this;cases this)
 obtain ⟨best,found,m⟩:=s
 rw [e,bsm]
 obtain ⟨hm,hb,hf,hz⟩:=hI
 simp only at hb hf hz ⊢
 rw [slcL_all,bsm]
 exact ⟨best,rfl,hb,hf (hz (Int.zero_add _))⟩
end Go.Proofs.YtailndjnfdcolaaDoor
namespace Go.Proofs.YtailndjnfdcolaaDoor
open Go.Abs Go.Proofs.Ta
theorem q6 (n many:Int) (h1:1≤many) (h9:many≤1000):∃ r:Nat,g6 n many=some (r:Int)∧(r:Int)<many:=by
 unfold g6
 rw [show decide (many<1)=false by simp;omega,cond_false,must_t (by simp;omega),bsm]
 have ha:=Int.tmod_lt_of_pos n (show 0<many by omega)
 have hb:-many<n.tmod many:=by
  have:=Int.lt_tmod_of_pos n (show 0<many by omega)
  omega
 by_cases h:n.tmod many<0
 ·rw [show decide (n.tmod many<0)=true by simpa using h,cond_true,wr_in (by omega) (by omega)]
  exact ⟨(n.tmod many+many).toNat,by congr 1;omega,by omega⟩
 ·rw [show decide (n.tmod many<0)=false by simpa using h,cond_false]
  exact ⟨(n.tmod many).toNat,by congr 1;omega,by omega⟩
theorem q11_loop (N:Int):∀ (xs:List Nat) (i:Int) (last:Int),xs.Pairwise (·<·)→(∀ x,x∈xs→last<(x:Int)∧(x:Int)<N)→∃ z,eachC (g11_2 N) (castL xs) i last=some (.next z)
 | [],i,last,_,_=>⟨_,rfl⟩
 | x::xs,i,last,hp,hx=>by
  obtain ⟨h1,h2⟩:=List.pairwise_cons.1 hp
  have h0:=hx x (by simp)
  have e:g11_2 N i (x:Int) last=some (.next (x:Int)):=by
   unfold g11_2
   rw [show decide ((x:Int)≤last)=false by simp;omega,cond_false,bsm,show decide (N≤(x:Int))=false by simp;omega,cond_false]
  obtain ⟨z,hz⟩:=q11_loop N xs (i+1) (x:Int) h2 (fun y hy=>⟨by have:=h1 y hy;omega,(hx y (by simp [hy])).2⟩)
  show ∃ z,eachC (g11_2 N) ((x:Int)::castL xs) i last=_
  rw [eachC,e,bsm]
  exact ⟨z,hz⟩
theorem q11 {b:DappleBook} {best:List Int} (h:Best b best):g11 best (b.Horses.length:Int)=some true:=by
 obtain ⟨l,rfl,hp,hl⟩:=h
 unfold g11
 obtain ⟨z,e⟩:=q11_loop (b.Horses.length:Int) l 0 (-1) hp (fun x hx=>⟨by omega,by have:=hl x hx;omega⟩)
 rw [e];rfl
theorem q12_loop (n:Int):∀ (xs:List Int) (i:Nat),∃ c,eachC (g12_2 n) xs (i:Int) ()=some c∧(match c with | .next _=>n ∉ xs | .brk r=>n∈xs∧0≤r)
 | [],i=>⟨.next (),rfl,by simp⟩
 | x::xs,i=>by
  obtain ⟨c,e,hc⟩:=q12_loop n xs (i+1)
  rw [eachC]
  unfold g12_2
  by_cases hv:x=n
  ·refine ⟨.brk (i:Int),?_,by simp [hv],by omega⟩
   rw [show decide (x=n)=true by simp [hv]];rfl
  ·refine ⟨c,?_,?_⟩
   ·rw [show decide (x=n)=false by simp [hv],cond_false,bsm]
    rw [show (((i+1:Nat)):Int)=(i:Int)+1 by omega] at e
    exact e
   ·cases c with
    | next s=>simp only at hc ⊢;simp [hc];exact fun h=>hv h.symm
    | brk r=>simp only at hc ⊢;exact ⟨by simp [hc.1],hc.2⟩
theorem q12 (l:List Int) (n:Int):∃ r,g12 l n=some r∧(decide (r<0))=!decide (n∈l):=by
 unfold g12
 obtain ⟨c,e,hc⟩:=q12_loop n l 0
 rw [show (((0:Nat)):Int)=0 from rfl] at e
 rw [e]
 cases c with
 | next u=>simp only [bindC] at hc ⊢;exact ⟨-1,rfl,by simp [hc]⟩
 | brk r=>simp only [bindC] at hc ⊢;exact ⟨r,rfl,by simp [hc.1,hc.2]⟩
def trn (l:List Int) (y:Nat):List Int:=(List.range l.length).map fun p=>arrL l ((p+y) % l.length)
theorem q9_loop (l:List Int) (h1:1≤l.length) (h8:l.length≤8) (y:Nat) (hy:y<100):∀ (xs:List Int) (i:Nat) (acc:List Int),i+xs.length=l.length→acc.length≤i →
  eachS (g9_2 l (y:Int)) xs (i:Int) acc=some (acc++(List.range' i xs.length).map fun p=>arrL l ((p+y) % l.length))
 | [],i,acc,_,_=>by simp [eachS]
 | x::xs,i,acc,hi,ha=>by
  simp only [List.length_cons] at hi
  have hm:(i+y) % l.length<l.length:=Nat.mod_lt _ (by omega)
  have e:g9_2 l (y:Int) (i:Int) x acc=some (acc++[arrL l ((i+y) % l.length)]):=by
   unfold g9_2
   rw [wr_in (by omega) (by omega)]
   have e6:g6 ((i:Int)+(y:Int)) (l.length:Int)=some (((i+y) % l.length:Nat):Int):=by
    unfold g6
    rw [show decide ((l.length:Int)<1)=false from decide_eq_false (by omega),cond_false,must_t (decide_eq_true (by omega)),bsm]
    rw [show ((i:Int)+(y:Int)).tmod (l.length:Int)=(((i+y) % l.length:Nat):Int) by
     rw [Int.tmod_eq_emod_of_nonneg (by omega)];simp]
    rw [show decide ((((i+y) % l.length:Nat):Int)<0)=false from decide_eq_false (Int.not_lt.2 (Int.natCast_nonneg _)),cond_false]
   rw [e6,bsm,ixL_nat,List.getElem?_eq_getElem hm,bsm,Go.Proofs.YtailndjnfdcolaaDoor.appL_ok (by simp;omega),bsm]
   unfold arrL
   rw [List.getD_eq_getElem?_getD,List.getElem?_eq_getElem hm,Option.getD_some]
  rw [eachS,e,bsm]
  have h2:=q9_loop l h1 h8 y hy xs (i+1) (acc++[arrL l ((i+y) % l.length)]) (by omega) (by simp;omega)
  rw [show (((i+1:Nat)):Int)=(i:Int)+1 by omega] at h2
  rw [h2,List.length_cons,List.range'_succ]
  simp
theorem q9 (l:List Int) (h1:1≤l.length) (h8:l.length≤8) (y:Nat) (hy:y<100):g9 l (y:Int)=some (trn l y):=by
 unfold g9
 have:=q9_loop l h1 h8 y hy l 0 [] (by omega) (by simp)
 rw [show (((0:Nat)):Int)=0 from rfl,List.nil_append,← List.range_eq_range'] at this
 rw [this];rfl
theorem q25_30 (i x:Int) (s:Bool):g25_30 i x s=some (s&&rg x 1 31):=by cases s<;>rfl
theorem q25_21 (p1:List Int) (i:Int) (x:List Int) (s:Bool):g25_21 p1 i x s=some (s&&(decide ((x.length:Int)=(p1.length:Int))&&x.all fun n=>rg n 1 31)):=by
 unfold g25_21
 cases s<;>simp only [cond_true,cond_false,bsm]<;>rw [eachS_all q25_30]<;>simp [bsm]
theorem q25 {t o:List Int} (h:t.length=o.length) (h1:1≤t.length) (h6:t.length≤6) (ht:∀ n,n∈t→1≤n∧n≤31) (ho:∀ n,n∈o→1≤n∧n≤31):g25 ⟨[t,o],[],0,0⟩=some 0:=by
 unfold g25
 have e39:∀ n a c,g39 n a c=some (rg n a c):=fun _ _ _=>rfl
 simp only [e39,bsm]
 rw [show rg (([t,o]:List (List Int)).length:Int) 1 5=true from rfl]
 simp only [Bool.not_true,cond_false]
 rw [show ixL [t,o] 0=some t from rfl]
 simp only [bsm]
 rw [show rg (t.length:Int) 1 6=true from rg_iff.2 ⟨by omega,by omega⟩]
 simp only [Bool.not_true,cond_false]
 rw [show decide ((8:Int)<(([]:List MakerMark).length:Int))=false from rfl]
 simp only [bsm,cond_false]
 rw [show rg 0 0 (t.length:Int)=true from rg_iff.2 ⟨by omega,by omega⟩]
 simp only [cond_true]
 rw [must_t (by simp),bsm]
 have hf:rg 0 0 (wr (shl64 1 (t.length:Int) - 1))=true:=by
  have:((List.range 7).all fun n=>rg 0 0 (wr (shl64 1 (n:Int) - 1)))=true:=by kernel_rfl
  exact List.all_eq_true.1 this t.length (List.mem_range.2 (by omega))
 rw [hf,bsm,eachS_all (q25_21 t)]
 have ha:(([t,o]:List (List Int)).all fun x=>decide ((x.length:Int)=(t.length:Int))&&x.all fun n=>rg n 1 31)=true:=by
  have h1:(t.all fun n=>rg n 1 31)=true:=List.all_eq_true.2 fun n hn=>rg_iff.2 (ht n hn)
  have h2:(o.all fun n=>rg n 1 31)=true:=List.all_eq_true.2 fun n hn=>rg_iff.2 (ho n hn)
  simp only [List.all_cons,List.all_nil,h1,h2,Bool.and_true,decide_true,Bool.true_and,decide_eq_true_eq]
  omega
 rw [ha]
 rfl
theorem factOr:((List.range 64).all fun a=>(List.range 6).all fun k=>rg (bOr (a:Int) (shl64 1 (k:Int))) 1 63)=true:=by kernel_rfl
theorem factOnes:((List.range 64).all fun a=>match g27 (IntKind.u64.wrap (a:Int)) with | some c=>decide (wr (2*0)<c)==!(Nat.beq a 0) | none=>false)=true:=by kernel_rfl
theorem factAnd:((List.range 64).all fun a=>decide (bAnd (a:Int) 0=0))=true:=by kernel_rfl
def no1 (t o:List Int) (k:Nat):Bool:=decide (bAnd (arrL t k) (arrL o k)=0)
theorem q10_loop (t o:List Int) (h6:t.length≤6) (h:t.length=o.length):∀ (xs:List Int) (i:Nat) (a:Nat),t.drop i=xs→a<64 →
  ∃ a':Nat,eachS (g10_15 ⟨[t,o],[],0,0⟩ 1) xs (i:Int) (a:Int)=some (a':Int)∧a'<64∧(!(Nat.beq a' 0))=(!(Nat.beq a 0)||(List.range' i xs.length).any (no1 t o))
 | [],i,a,_,ha=>⟨a,rfl,ha,by simp⟩
 | x::xs,i,a,hd,ha=>by
  have hi:i<t.length:=by
   by_cases hi:i<t.length
   ·exact hi
   ·rw [List.drop_eq_nil_of_le (by omega)] at hd;cases hd
  rw [List.drop_eq_getElem_cons hi] at hd
  injection hd with hx hxs
  subst hx
  have io:i<o.length:=by omega
  have e:g10_15 ⟨[t,o],[],0,0⟩ 1 (i:Int) t[i] (a:Int)=some (bif no1 t o i then bOr (a:Int) (shl64 1 (i:Int)) else (a:Int)):=by
   unfold g10_15 no1
   rw [show ixL (MakerBook.mk [t,o] [] 0 0).Makers 1=some o from rfl,bsm,ixL_nat,List.getElem?_eq_getElem io,bsm]
   rw [show arrL t i=t[i] by unfold arrL;rw [List.getD_eq_getElem?_getD,List.getElem?_eq_getElem hi,Option.getD_some]]
   rw [show arrL o i=o[i] by unfold arrL;rw [List.getD_eq_getElem?_getD,List.getElem?_eq_getElem io,Option.getD_some]]
   rw [must_t (by simp),bsm]
   cases decide (bAnd t[i] o[i]=0)<;>rfl
  rw [eachS,e,bsm]
  cases hn:no1 t o i with
  | false=>
   obtain ⟨a',e',h1,h2⟩:=q10_loop t o h6 h xs (i+1) a hxs ha
   rw [show (((i+1:Nat)):Int)=(i:Int)+1 by omega] at e'
   exact ⟨a',e',h1,by rw [h2,List.length_cons,List.range'_succ,List.any_cons,hn,Bool.false_or]⟩
  | true=>
   have hb:=rg_iff.1 (List.all_eq_true.1 (List.all_eq_true.1 factOr a (List.mem_range.2 ha)) i (List.mem_range.2 (by omega)))
   obtain ⟨a',e',h1,h2⟩:=q10_loop t o h6 h xs (i+1) (bOr (a:Int) (shl64 1 (i:Int))).toNat hxs (by omega)
   rw [show (((i+1:Nat)):Int)=(i:Int)+1 by omega,show (((bOr (a:Int) (shl64 1 (i:Int))).toNat:Nat):Int)=bOr (a:Int) (shl64 1 (i:Int)) by omega] at e'
   refine ⟨a',e',h1,?_⟩
   rw [h2,List.length_cons,List.range'_succ,List.any_cons,hn,Bool.true_or,Bool.or_true]
   have:Nat.beq (bOr (a:Int) (shl64 1 (i:Int))).toNat 0=false:=by
    cases hq:Nat.beq (bOr (a:Int) (shl64 1 (i:Int))).toNat 0 with
    | false=>rfl
    | true=>have:=Nat.eq_of_beq_eq_true hq;omega
   rw [this];rfl
theorem q10 {t o:List Int} (h:t.length=o.length) (h1:1≤t.length) (h6:t.length≤6) (ht:∀ n,n∈t→1≤n∧n≤31) (ho:∀ n,n∈o→1≤n∧n≤31) :
  g10 ⟨[t,o],[],0,0⟩ 0 1=some ((List.range t.length).any (no1 t o),0):=by
 unfold g10
 rw [q25 h h1 h6 ht ho,bsm]
 simp only [ne_eq,not_true_eq_false,decide_false,cond_false]
 rw [show g26 ⟨[t,o],[],0,0⟩ 0=some true from rfl,bsm]
 rw [show g26 ⟨[t,o],[],0,0⟩ 1=some true from rfl]
 simp only [Bool.not_true,cond_false,bsm]
 rw [show (false||decide ((0:Int)=1))=false from rfl,cond_false,show ixL ([t,o]:List (List Int)) 0=some t from rfl,bsm]
 obtain ⟨a,e,ha,hb⟩:=q10_loop t o h6 h t 0 0 rfl (by omega)
 rw [show (((0:Nat)):Int)=0 from rfl] at e
 rw [e,bsm]
 have h0:bAnd (a:Int) 0=0:=by simpa using List.all_eq_true.1 factAnd a (List.mem_range.2 ha)
 rw [show decide (¬ bAnd (a:Int) 0=0)=false by simp [h0],cond_false]
 have hc:=List.all_eq_true.1 factOnes a (List.mem_range.2 ha)
 cases hg:g27 (IntKind.u64.wrap (a:Int)) with
 | none=>rw [hg] at hc;cases hc
 | some c=>
  rw [hg] at hc
  simp only [beq_iff_eq] at hc
  rw [bsm,hc,hb,← List.range_eq_range']
  rfl
theorem trn_len (l:List Int) (y:Nat):(trn l y).length=l.length:=by simp [trn]
theorem trn_get {l:List Int} {y k:Nat} (hk:k<l.length):arrL (trn l y) k=arrL l ((k+y) % l.length):=by
 show (trn l y).getD k 0=_
 rw [List.getD_eq_getElem?_getD]
 unfold trn
 rw [List.getElem?_map,List.getElem?_range hk]
 rfl
theorem trn_mem {l:List Int} {y:Nat} (h1:1≤l.length) {n:Int} (hn:n∈trn l y):n∈l:=by
 unfold trn at hn
 rw [List.mem_map] at hn
 obtain ⟨p,_,rfl⟩:=hn
 have hm:(p+y) % l.length<l.length:=Nat.mod_lt _ (by omega)
 unfold arrL
 rw [List.getD_eq_getElem?_getD,List.getElem?_eq_getElem hm,Option.getD_some]
 exact List.getElem_mem hm
theorem plain3 (b:DappleBook) (n:Nat→Int):g3 b n=some true:=by
 unfold g3
 rw [small_ok,bsm]
 cases hs:okS b with
 | false=>simp only [Bool.not_false,cond_true,bsm];rw [told_ok];rfl
 | true=>
  obtain ⟨sb,hc⟩:=sm_of hs
  have hr1:=sb.r1;have hr6:=sb.r6;have hn5:=sb.n5
  simp only [Bool.not_true,cond_false,bsm]
  by_cases h2:(b.Horses.length:Int)<2
  ·rw [show decide ((b.Horses.length:Int)<2)=true by simpa using h2,cond_true,told_ok];rfl
  ·rw [show decide ((b.Horses.length:Int)<2)=false by simpa using h2,cond_false]
   obtain ⟨one,e1,h1⟩:=q6 (n 0) (b.Horses.length:Int) (by omega) (by omega)
   rw [e1,bsm]
   have hw:wr ((b.Horses.length:Int) - 1)=(b.Horses.length:Int) - 1:=wr_in (by omega) (by omega)
   rw [hw]
   obtain ⟨st,e2,h3⟩:=q6 (n 1) ((b.Horses.length:Int) - 1) (by omega) (by omega)
   rw [e2,bsm,wr_in (n:=(one:Int)+1) (by omega) (by omega),wr_in (by omega) (by omega)]
   have e3:∃ other:Nat,g6 ((one:Int)+1+(st:Int)) (b.Horses.length:Int)=some (other:Int)∧other<b.Horses.length∧other≠one:=by
    have hm:(one+1+st) % b.Horses.length<b.Horses.length:=Nat.mod_lt _ (by omega)
    refine ⟨(one+1+st) % b.Horses.length,?_,hm,?_⟩
    ·unfold g6
     rw [show decide ((b.Horses.length:Int)<1)=false from decide_eq_false (by omega),cond_false,must_t (decide_eq_true (by omega)),bsm]
     rw [show ((one:Int)+1+(st:Int)).tmod (b.Horses.length:Int)=(((one+1+st) % b.Horses.length:Nat):Int) by
      rw [Int.tmod_eq_emod_of_nonneg (by omega)];simp]
     rw [show decide ((((one+1+st) % b.Horses.length:Nat):Int)<0)=false from decide_eq_false (Int.not_lt.2 (Int.natCast_nonneg _)),cond_false]
    ·by_cases hlt:one+1+st<b.Horses.length
     ·rw [Nat.mod_eq_of_lt hlt];omega
     ·rw [Nat.mod_eq_sub_mod (by omega),Nat.mod_eq_of_lt (by omega)];omega
   obtain ⟨other,e3,h4,hne⟩:=e3
   rw [e3,bsm]
   have hR:b.Round=(b.Round.toNat:Int):=by omega
   obtain ⟨y,e4,h5⟩:=q6 (n 2) b.Round (by omega) (by omega)
   rw [e4,bsm]
   have ho1:one<b.Horses.length:=by omega
   -- turns
   have e7:g7 b (one:Int) (other:Int)=some (castL ((List.range b.Round.toNat).filter (alk b.Round.toNat (rwF b one) (rwF b other))),0):=by
    unfold g7
    have e33:∀ k:Nat,k<b.Horses.length→g33 b (k:Int)=some true:=fun k hk=>by
     unfold g33
     rw [q28,bsm,hw]
     exact congrArg some (rg_iff.2 ⟨by omega,by omega⟩)
    have e20:g20 b (one:Int) (other:Int)=some (.brk (b,b.Horses.map arrL,0,m0)):=by
     unfold g20
     rw [hc,bsm]
     simp only [ne_eq,not_true_eq_false,decide_false,cond_false]
     rw [e33 one ho1,bsm,e33 other h4]
     simp only [Bool.not_true,cond_false,bsm]
     rw [show decide ((one:Int)=(other:Int))=false by simp;omega]
     simp only [Bool.or_self,cond_false]
     rw [q22 sb,bsm]
    rw [e20,bsm]
    simp only [ne_eq,not_true_eq_false,decide_false,cond_false]
    rw [ixL_nat,(sm_row sb ho1).1,bsm,ixL_nat,(sm_row sb h4).1,bsm]
    rw [show g21 b (b.Horses.map arrL) (rwF b one) (rwF b other)=some (b,b.Horses.map arrL,rwF b one,rwF b other) from rfl,bsm]
    simp only
    rw [bsm]
    simp only
    rw [q34_turns hR (by omega) (by omega),bsm]
    simp only
    rw [slcL_all,bsm]
   rw [e7,bsm]
   obtain ⟨best,e8,hb,hbad⟩:=q8 sb hc
   simp only
   rw [e8,bsm]
   simp only
   have g1:b.Horses[one]?=some b.Horses[one]:=List.getElem?_eq_getElem ho1
   have g2:b.Horses[other]?=some b.Horses[other]:=List.getElem?_eq_getElem h4
   obtain ⟨l1,v1⟩:=sb.row _ (List.mem_of_getElem? g1)
   obtain ⟨l2,v2⟩:=sb.row _ (List.mem_of_getElem? g2)
   have f1:rwF b one=arrL b.Horses[one]:=by unfold rwF;rw [g1];rfl
   have f2:rwF b other=arrL b.Horses[other]:=by unfold rwF;rw [g2];rfl
   rw [ixL_nat,g1,bsm,q9 _ (by omega) (by omega) y (by omega),bsm,ixL_nat,g2,bsm]
   rw [q10 (by rw [trn_len];omega) (by rw [trn_len];omega) (by rw [trn_len];omega) (fun m hm=>by have:=v1 m (trn_mem (by omega) hm);omega) (fun m hm=>by have:=v2 m hm;omega),bsm]
   simp only [ne_eq,not_true_eq_false,decide_false,Bool.or_self,cond_false]
   rw [q11 hb,bsm,bsm]
   simp only [Bool.not_true,cond_false]
   obtain ⟨r1,e9,hr1'⟩:=q12 best (one:Int)
   obtain ⟨r2,e10,hr2'⟩:=q12 best (other:Int)
   obtain ⟨r3,e11,hr3'⟩:=q12 (castL ((List.range b.Round.toNat).filter (alk b.Round.toNat (rwF b one) (rwF b other)))) (y:Int)
   rw [e9,bsm,e10,e11]
   simp only [bsm]
   rw [hr1',hr2',hr3']
   -- told apart just if it is no turn
   have hy:y<b.Round.toNat:=by omega
   have key:(List.range (trn b.Horses[one] y).length).any (no1 (trn b.Horses[one] y) b.Horses[other])=!alk b.Round.toNat (rwF b one) (rwF b other) y:=by
    have hl:b.Horses[one].length=b.Round.toNat:=by omega
    rw [trn_len,hl]
    unfold alk
    rw [List.not_all_eq_any_not]
    rw [Bool.eq_iff_iff,List.any_eq_true,List.any_eq_true]
    constructor
    ·rintro ⟨k,hk,hn⟩
     refine ⟨k,hk,?_⟩
     have hk:=List.mem_range.1 hk
     unfold no1 at hn
     unfold al1
     rw [trn_get (by omega),hl] at hn
     rw [f1,f2]
     simpa using hn
    ·rintro ⟨k,hk,hn⟩
     refine ⟨k,hk,?_⟩
     have hk:=List.mem_range.1 hk
     unfold no1
     unfold al1 at hn
     rw [trn_get (by omega),hl]
     rw [f1,f2] at hn
     simpa using hn
   have hmem:decide ((y:Int)∈castL ((List.range b.Round.toNat).filter (alk b.Round.toNat (rwF b one) (rwF b other))))=alk b.Round.toNat (rwF b one) (rwF b other) y:=by
    rw [Bool.eq_iff_iff,decide_eq_true_eq,mem_castL,List.mem_filter,List.mem_range]
    exact ⟨fun h=>h.2,fun h=>⟨hy,h⟩⟩
   rw [key,hmem]
   have hkept:(!decide ((one:Int)∈best)&&!decide ((other:Int)∈best))=true→alk b.Round.toNat (rwF b one) (rwF b other) y=false:=by
    intro hk
    simp only [Bool.and_eq_true,Bool.not_eq_true',decide_eq_false_iff_not] at hk
    cases ha:alk b.Round.toNat (rwF b one) (rwF b other) y with
    | false=>rfl
    | true=>
     exfalso
     by_cases hlt:one<other
     ·have:=bad_of hbad hlt h4 hk.1 hk.2
      unfold sm sameB at this
      rw [List.any_eq_false] at this
      exact this y (List.mem_range.2 hy) ha
     ·have:=bad_of hbad (show other<one by omega) ho1 hk.2 hk.1
      unfold sm sameB at this
      rw [List.any_eq_false] at this
      have hR1:1≤b.Round.toNat:=by omega
      exact this ((b.Round.toNat - y) % b.Round.toNat) (List.mem_range.2 (Nat.mod_lt _ (by omega))) (alk_back hR1 hy ha)
   cases hk1:decide ((one:Int)∈best) with
   | true=>
    simp only [Bool.not_true,cond_false,bsm]
    cases alk b.Round.toNat (rwF b one) (rwF b other) y<;>(rw [told_ok];rfl)
   | false=>
    simp only [Bool.not_false,cond_true,bsm]
    cases hk2:decide ((other:Int)∈best) with
    | true=>cases alk b.Round.toNat (rwF b one) (rwF b other) y<;>(rw [told_ok];rfl)
    | false=>
     rw [hkept (by rw [hk1,hk2];rfl),told_ok];rfl
end Go.Proofs.YtailndjnfdcolaaDoor
