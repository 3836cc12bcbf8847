/- Plain laws. Conditions: none. -/
import Derived.Test.YtjooihelppcfkaaDoorAr
set_option linter.unusedVariables false
set_option linter.unusedSimpArgs false
namespace Go.Proofs.YtjooihelppcfkaaDoor
open Go.Abs Go.Proofs.Tr
theorem dressed_ok:g24=some true:=by kernel_rfl
end Go.Proofs.YtjooihelppcfkaaDoor
namespace Go.Proofs.YtjooihelppcfkaaDoor
open Go.Abs Go.Proofs.Tr
theorem cs {α:Type} (c:Bool) (a b:α):(bif c then some a else some b)=some (bif c then a else b):=by cases c<;>rfl
theorem bsm {α β:Type} (a:α) (f:α→Option β):(some a).bind f=f a:=rfl
theorem eachS_all {α:Type} {f:Int→α→Bool→Option Bool} {p:α→Bool} (h:∀ i x s,f i x s=some (s&&p x)):∀ (xs:List α) (i:Int) (s:Bool),eachS f xs i s=some (s&&xs.all p)
 | [],i,s=>by simp [eachS]
 | x::xs,i,s=>by rw [eachS,h,bsm,eachS_all h xs];simp [Bool.and_assoc]
def rg (n a b:Int):Bool:=decide (a≤n)&&decide (n≤b)
theorem while_all {α:Type} {f:Bool×Int→Option (Ctl (Bool×Int) Bool)} {p:α→Bool} {xs:List α} (hl:xs.length<900)
  (h0:∀ i,f (false,i)=some (.brk false)) (h1:f (true,(xs.length:Int))=some (.brk true))
  (h:∀ (i:Nat) x,xs[i]?=some x→f (true,(i:Int))=some (.next (p x,((i+1:Nat):Int)))) :
  ∀ (n i:Nat),i+n=xs.length→∀ k,n+2≤k→whileC f k (true,(i:Int))=some ((xs.drop i).all p)
 | 0,i,hi,k,hk=>by
  obtain ⟨k,rfl⟩:∃ k',k=k'+1:=⟨k - 1,by omega⟩
  have:i=xs.length:=by omega
  subst this
  rw [whileC,h1];simp
 | n+1,i,hi,k,hk=>by
  obtain ⟨k,rfl⟩:∃ k',k=k'+1:=⟨k - 1,by omega⟩
  have hlt:i<xs.length:=by omega
  rw [whileC,h i _ (List.getElem?_eq_getElem hlt),bsm,List.drop_eq_getElem_cons hlt,List.all_cons]
  cases hp:p xs[i] with
  | false=>
   obtain ⟨k,rfl⟩:∃ k',k=k'+1:=⟨k - 1,by omega⟩
   simp only;rw [whileC,h0];rfl
  | true=>simp only;rw [while_all hl h0 h1 h n (i+1) (by omega) k (by omega)];simp
theorem wr_nat {i:Nat} (h:i<1000):wr ((i:Int)+1)=((i+1:Nat):Int):=by rw [wr_in (by omega) (by omega)];simp
theorem ixL_nat {α:Type} (xs:List α) (i:Nat):ixL xs (i:Int)=xs[i]?:=by
 unfold ixL
 have:decide (0≤(i:Int))=true:=by simp
 rw [this];simp
def Bd (a x:Int):Prop:=-a≤x∧x≤a
theorem Bd.mul {a b x y:Int} (hx:Bd a x) (hy:Bd b y):Bd (a*b) (x*y):=by
 have h1:x.natAbs≤a.natAbs:=by obtain ⟨h,k⟩:=hx;omega
 have h2:y.natAbs≤b.natAbs:=by obtain ⟨h,k⟩:=hy;omega
 have h3:=Nat.mul_le_mul h1 h2
 rw [← Int.natAbs_mul,← Int.natAbs_mul] at h3
 have ha:0≤a:=by obtain ⟨h,k⟩:=hx;omega
 have hb:0≤b:=by obtain ⟨h,k⟩:=hy;omega
 have:=Int.mul_nonneg ha hb
 constructor<;>omega
theorem Bd.add {a b x y:Int} (hx:Bd a x) (hy:Bd b y):Bd (a+b) (x+y):=by obtain ⟨h,k⟩:=hx;obtain ⟨h',k'⟩:=hy;constructor<;>omega
theorem Bd.sub {a b x y:Int} (hx:Bd a x) (hy:Bd b y):Bd (a+b) (x - y):=by obtain ⟨h,k⟩:=hx;obtain ⟨h',k'⟩:=hy;constructor<;>omega
theorem Bd.mono {a b x:Int} (hx:Bd a x) (h:a≤b):Bd b x:=by obtain ⟨h,k⟩:=hx;constructor<;>omega
theorem rg_iff {n a c:Int}:rg n a c=true↔a≤n∧n≤c:=by simp [rg]
theorem must_t {x:Bool} (h:x=true):must x=some ():=by subst h;rfl
theorem eachS_count {α:Type} {f:Int→α→Int→Option Int} {p:α→Bool}:∀ (xs:List α) (i:Int) (n:Nat),(∀ i x,x∈xs→∀ m:Int,f i x m=some (bif p x then wr (m+1) else m))→n+xs.length≤100000→eachS f xs i (n:Int)=some (((n+(xs.filter p).length:Nat)):Int)
 | [],i,n,h,hn=>by simp [eachS]
 | x::xs,i,n,h,hn=>by
  simp only [List.length_cons] at hn
  rw [eachS,h i x (by simp),bsm,List.filter_cons]
  cases hp:p x with
  | false=>
   simp only [cond_false]
   rw [eachS_count xs (i+1) n (fun i y hy=>h i y (by simp [hy])) (by omega)];rfl
  | true=>
   simp only [cond_true]
   rw [wr_in (by omega) (by omega),show (n:Int)+1=((n+1:Nat):Int) by omega,eachS_count xs (i+1) (n+1) (fun i y hy=>h i y (by simp [hy])) (by omega)]
   simp;omega
def firstI (p:Int→Bool):Nat→Int→Option Int
 | 0,_=>none
 | n+1,i=>bif p i then some i else firstI p n (i+1)
theorem forC_first {S R:Type} {f:Int→S→Option (Ctl S R)} (I:S→Prop) (p:Int→Bool) (r:Int→R):∀ (n:Nat) (i:Int) (s:S),I s →
  (∀ j s,i≤j→j<i+n→I s→∃ s',I s'∧f j s=some (bif p j then .brk (r j) else .next s')) →
  ∃ s',I s'∧forC f n i s=some (match firstI p n i with | some j=>.brk (r j) | none=>.next s')
 | 0,i,s,hs,h=>⟨s,hs,rfl⟩
 | n+1,i,s,hs,h=>by
  obtain ⟨s1,h1,e1⟩:=h i s (by omega) (by omega) hs
  rw [forC,e1,bsm,firstI]
  cases p i with
  | true=>exact ⟨s1,h1,rfl⟩
  | false=>exact forC_first I p r n (i+1) s1 h1 (fun j s k1 k2=>h j s (by omega) (by omega))
theorem forC_firstU {R:Type} {f:Int→Unit→Option (Ctl Unit R)} (p:Int→Bool) (r:Int→R) (n:Nat) (i:Int) (h:∀ j,i≤j→j<i+n→f j ()=some (bif p j then .brk (r j) else .next ())) :
  forC f n i ()=some (match firstI p n i with | some j=>.brk (r j) | none=>.next ()):=by
 obtain ⟨s,_,e⟩:=forC_first (fun _=>True) p r n i () trivial (fun j s h1 h2 _=>⟨(),trivial,h j h1 h2⟩)
 exact e
theorem roomB_ok {n b:Nat} (h:n*b≤140737488355328):roomB n b=true:=Nat.ble_eq_true_of_le h
theorem appL_ok {α:Type} {sz:Nat} {l m:List α} (h:(l++m).length*sz≤140737488355328):appL sz l m=some (l++m):=by
 unfold appL
 rw [roomB_ok h];rfl
theorem slcL_all {α:Type} (l:List α):slcL l 0 (l.length:Int)=some l:=by
 unfold slcL
 have:(decide ((0:Int)≤0)&&(decide ((0:Int)≤(l.length:Int))&&decide ((l.length:Int)≤(l.length:Int))))=true:=by simp
 rw [this];simp
theorem forS_inv {S:Type} {f:Int→S→Option S} (I:Int→S→Prop):∀ (n:Nat) (i:Int) (s:S),I i s→(∀ j s,i≤j→j<i+n→I j s→∃ s',f j s=some s'∧I (j+1) s')→∃ s',forS f n i s=some s'∧I (i+n) s'
 | 0,i,s,hs,h=>⟨s,rfl,by simpa using hs⟩
 | n+1,i,s,hs,h=>by
  obtain ⟨s1,e1,h1⟩:=h i s (by omega) (by omega) hs
  obtain ⟨s2,e2,h2⟩:=forS_inv I n (i+1) s1 h1 (fun j s k1 k2=>h j s (by omega) (by omega))
  refine ⟨s2,by rw [forS,e1,bsm,e2],?_⟩
  rw [show i+((n+1:Nat):Int)=i+1+(n:Int) by omega]
  exact h2
theorem ixN_nat {n i:Nat} (h:i<n):ixN n (i:Int)=some i:=by
 unfold ixN
 have:(decide (0≤(i:Int))&&Nat.blt (i:Int).toNat n)=true:=by simp [h,Nat.blt_eq]
 rw [this];simp
theorem mfd_append {K W:Type} (q:K→K→Bool) (k k':K) (w:W):∀ (m:List (K×W)) (i:Nat),(mfd q k (m++[(k',w)]) i).map (·.2)=match (mfd q k m i).map (·.2) with
  | some v=>some v
  | none=>bif q k k' then some w else none
 | [],i=>by
  simp only [List.nil_append,mfd]
  cases q k k'<;>rfl
 | p::m,i=>by
  simp only [List.cons_append,mfd]
  cases q k p.1 with
  | true=>rfl
  | false=>simp only [cond_false];exact mfd_append q k k' w m (i+1)
theorem mget_append {K W:Type} (q:K→K→Bool) (m:List (K×W)) (k k':K) (w:W):mget q (m++[(k',w)]) k=match mget q m k with
  | some v=>some v
  | none=>bif q k k' then some w else none:=mfd_append q k k' w m 0
end Go.Proofs.YtjooihelppcfkaaDoor
namespace Go.Proofs.YtjooihelppcfkaaDoor
open Go.Abs Go.Proofs.Tr
def okSpan (s:Span) (a c w:Int):Bool:=decide (a≤s.Low)&&decide (s.Low≤s.High)&&decide (s.High≤c)&&decide (wr (s.High - s.Low)≤w)
def okHank (x:HairHank):Bool:=okSpan x.Weight 1 60 4&&okSpan x.Shade 0 20 2
def okHorse (x:HairHorse):Bool:=rg x.Mane 1 30&&rg x.Tail 1 30&&rg x.Shade 0 25
def okH (b:HairBook):Bool:=decide ((b.Hanks.length:Int)≤4)&&decide ((b.Horses.length:Int)≤3)&&rg b.Dark 0 4&&rg b.Near 0 3&&rg b.Match 0 3&&b.Hanks.all okHank&&b.Horses.all okHorse
theorem p57 (n a c:Int):g97 n a c=some (rg n a c):=rfl
theorem p63 (s:Span) (a c w:Int):g98 s a c w=some (okSpan s a c w):=rfl
theorem p17_15 (i:Int) (x:HairHank) (s:Bool):g67_15 i x s=some (s&&okHank x):=by
 simp only [g67_15,p63,bsm,cs,okHank,Bool.cond_false_right,Bool.and_assoc]
theorem p17_31 (i:Int) (x:HairHorse) (s:Bool):g67_31 i x s=some (s&&okHorse x):=by
 simp only [g67_31,p57,bsm,cs,okHorse,Bool.cond_false_right,Bool.and_assoc]
theorem p17 (b:HairBook):g67 b=some (bif okH b then 0 else 60):=by
 unfold g67
 simp only [p57,bsm,cs,Bool.cond_false_right,eachS_all p17_15,eachS_all p17_31]
 have:∀ x:Bool,(bif !x then (60:Int) else 0)=bif x then 0 else 60:=by intro x;cases x<;>rfl
 rw [this]
 simp only [okH,Bool.and_assoc]
structure HankOk (x:HairHank):Prop where
 w:1≤x.Weight.Low∧x.Weight.Low≤x.Weight.High∧x.Weight.High≤60
 s:0≤x.Shade.Low∧x.Shade.Low≤x.Shade.High∧x.Shade.High≤20
structure OkH (b:HairBook):Prop where
 l4:b.Hanks.length≤5
 l3:b.Horses.length≤3
 dark:0≤b.Dark∧b.Dark≤4
 near:0≤b.Near∧b.Near≤3
 mat:0≤b.Match∧b.Match≤3
 hanks:∀ x,x∈b.Hanks→HankOk x
 horses:∀ x,x∈b.Horses→(1≤x.Mane∧x.Mane≤30)∧(1≤x.Tail∧x.Tail≤30)∧0≤x.Shade∧x.Shade≤25
theorem okH_of {b:HairBook} (h:okH b=true):OkH b:=by
 simp only [okH,Bool.and_eq_true,rg_iff,decide_eq_true_eq,List.all_eq_true] at h
 obtain ⟨⟨⟨⟨⟨⟨h1,h2⟩,h3⟩,h4⟩,h5⟩,h6⟩,h7⟩:=h
 refine ⟨by omega,by omega,h3,h4,h5,fun x hx=>?_,fun x hx=>?_⟩
 ·have:=h6 x hx
  simp only [okHank,okSpan,Bool.and_eq_true,decide_eq_true_eq] at this
  exact ⟨by omega,by omega⟩
 ·have:=h7 x hx
  simp only [okHorse,Bool.and_eq_true,rg_iff] at this
  omega
theorem q131_iff (x y:Hair_dye):q131 x y=true↔x=y:=by
 cases x;cases y
 simp [q131]
def shOf (b:HairBook) (h n:Int):Span:=match b.Hanks[h.toNat]? with
 | some x=>⟨x.Shade.Low+n,x.Shade.High+n⟩
 | none=>⟨0,0⟩
def ShK (b:HairBook) (k j:Int) (m:List (Hair_dye×Span)):Prop:=∀ h n,mget q131 m ⟨h,n⟩=bif (decide (0≤h)&&decide (h<k)&&decide (0≤n)&&decide (n≤b.Dark))||(decide (h=k)&&decide (0≤n)&&decide (n<j)) then some (shOf b h n) else none
theorem eachS_inv {α S:Type} {f:Int→α→S→Option S} (I:Nat→S→Prop):∀ (xs:List α) (i:Nat) (s:S),I i s→(∀ j x s,i≤j→xs[j - i]?=some x→I j s→∃ s',f (j:Int) x s=some s'∧I (j+1) s')→∃ s',eachS f xs (i:Int) s=some s'∧I (i+xs.length) s'
 | [],i,s,hs,h=>⟨s,rfl,by simpa using hs⟩
 | x::xs,i,s,hs,h=>by
  obtain ⟨s1,e1,h1⟩:=h i x s (Nat.le_refl _) (by simp) hs
  obtain ⟨s2,e2,h2⟩:=eachS_inv I xs (i+1) s1 h1 (fun j y s hj hy hI=>h j y s (by omega) (by
   have:j - i=(j - (i+1))+1:=by omega
   rw [this,List.getElem?_cons_succ];exact hy) hI)
  refine ⟨s2,?_,?_⟩
  ·rw [eachS,e1,bsm,show (i:Int)+1=((i+1:Nat):Int) by omega,e2]
  ·rw [List.length_cons,show i+(xs.length+1)=i+1+xs.length by omega];exact h2
theorem p80_8 {b:HairBook} (ok:OkH b) {k:Nat} {x:HairHank} (hx:b.Hanks[k]?=some x) {j:Int} (h0:0≤j) (h1:j≤b.Dark) {m:List (Hair_dye×Span)} (hm:ShK b k j m):∃ m',g111_8 (k:Int) x j m=some m'∧ShK b k (j+1) m':=by
 have hd:=ok.dark
 have hs:=(ok.hanks x (List.mem_of_getElem? hx)).s
 have hnone:mget q131 m ⟨(k:Int),j⟩=none:=by
  rw [hm]
  have:((decide (0≤(k:Int))&&decide ((k:Int)<(k:Int))&&decide (0≤j)&&decide (j≤b.Dark))||(decide ((k:Int)=(k:Int))&&decide (0≤j)&&decide (j<j)))=false:=by simp
  rw [this];rfl
 have hsh:shOf b (k:Int) j=⟨x.Shade.Low+j,x.Shade.High+j⟩:=by
  unfold shOf
  rw [Int.toNat_natCast,hx]
 refine ⟨m++[(⟨(k:Int),j⟩,⟨x.Shade.Low+j,x.Shade.High+j⟩)],?_,fun h n=>?_⟩
 ·unfold g111_8 mput
  rw [hnone,wr_in (by omega) (by omega),wr_in (by omega) (by omega)]
  rfl
 ·rw [mget_append]
  by_cases he:h=(k:Int)∧n=j
  ·obtain ⟨rfl,rfl⟩:=he
   rw [hnone]
   have hq:q131 ⟨(k:Int),n⟩ ⟨(k:Int),n⟩=true:=(q131_iff _ _).2 rfl
   have ht:((decide (0≤(k:Int))&&decide ((k:Int)<(k:Int))&&decide (0≤n)&&decide (n≤b.Dark))||(decide ((k:Int)=(k:Int))&&decide (0≤n)&&decide (n<n+1)))=true:=by
    simp;omega
   rw [ht,hsh]
   simp only [hq,cond_true]
  ·have hq:q131 ⟨h,n⟩ ⟨(k:Int),j⟩=false:=by
    cases hc:q131 ⟨h,n⟩ ⟨(k:Int),j⟩ with
    | false=>rfl
    | true=>
     have:=(q131_iff _ _).1 hc
     injection this with e1 e2
     exact absurd ⟨e1,e2⟩ he
   rw [hm,hq]
   have:(decide (h=(k:Int))&&decide (0≤n)&&decide (n<j))=(decide (h=(k:Int))&&decide (0≤n)&&decide (n<j+1)):=by
    rw [Bool.eq_iff_iff]
    simp only [Bool.and_eq_true,decide_eq_true_eq]
    constructor
    ·rintro ⟨⟨a1,a2⟩,a3⟩;exact ⟨⟨a1,a2⟩,by omega⟩
    ·rintro ⟨⟨a1,a2⟩,a3⟩
     refine ⟨⟨a1,a2⟩,?_⟩
     by_cases e:n=j
     ·exact absurd ⟨a1,e⟩ he
     ·omega
   rw [this]
   cases (decide (0≤h)&&decide (h<(k:Int))&&decide (0≤n)&&decide (n≤b.Dark))||(decide (h=(k:Int))&&decide (0≤n)&&decide (n<j+1))<;>rfl
def ShOk (b:HairBook) (m:List (Hair_dye×Span)):Prop:=∀ (h n:Int),0≤h→h<b.Hanks.length→0≤n→n≤b.Dark→mget q131 m ⟨h,n⟩=some (shOf b h n)
theorem p80 {b:HairBook} (ok:OkH b):∃ m,g111 b=some (b,m)∧ShOk b m:=by
 have hd:=ok.dark
 have e:wr (b.Dark+1)=b.Dark+1:=wr_in (by omega) (by omega)
 obtain ⟨m,em,hm⟩:=eachS_inv (f:=g111_3 b) (fun k m=>ShK b (k:Int) 0 m) b.Hanks 0 [] (fun h n=>by
  have:((decide (0≤h)&&decide (h<((0:Nat):Int))&&decide (0≤n)&&decide (n≤b.Dark))||(decide (h=((0:Nat):Int))&&decide (0≤n)&&decide (n<0)))=false:=by
   rw [Bool.eq_false_iff]
   intro hc
   simp only [Bool.or_eq_true,Bool.and_eq_true,decide_eq_true_eq] at hc
   omega
  rw [this];rfl) (fun k x m hk hx hm=>by
  rw [Nat.sub_zero] at hx
  obtain ⟨m',e',h'⟩:=forS_inv (f:=g111_8 (k:Int) x) (fun j m=>ShK b (k:Int) j m) (b.Dark+1 - 0).toNat 0 m hm (fun j s j1 j2 hs=>p80_8 ok hx j1 (by omega) hs)
  refine ⟨m',by unfold g111_3;rw [e,e',bsm],fun h n=>?_⟩
  rw [h']
  congr 1
  rw [Bool.eq_iff_iff]
  simp only [Bool.or_eq_true,Bool.and_eq_true,decide_eq_true_eq]
  omega)
 refine ⟨m,?_,fun h n h1 h2 h3 h4=>?_⟩
 ·unfold g111
  rw [show ((0:Nat):Int)=0 from rfl] at em
  rw [em,bsm]
 ·rw [hm]
  have:((decide (0≤h)&&decide (h<((0+b.Hanks.length:Nat):Int))&&decide (0≤n)&&decide (n≤b.Dark))||(decide (h=((0+b.Hanks.length:Nat):Int))&&decide (0≤n)&&decide (n<0)))=true:=by
   simp only [Bool.or_eq_true,Bool.and_eq_true,decide_eq_true_eq]
   omega
  rw [this];rfl
def nearB (b:HairBook) (want:Int) (s:Span):Bool:=decide (s.High - want≤b.Near)&&decide (want - s.Low≤b.Near)
def mB (b:HairBook) (want mane tail m t:Int):Bool:=nearB b want (shOf b mane m)&&nearB b want (shOf b tail t) &&
 bif decide (mane=tail) then decide (-b.Match≤m - t)&&decide (m - t≤b.Match) else decide ((shOf b mane m).High - (shOf b tail t).Low≤b.Match)&&decide ((shOf b tail t).High - (shOf b mane m).Low≤b.Match)
theorem sh_bd {b:HairBook} (ok:OkH b) {h n:Int} (h1:0≤h) (h2:h<b.Hanks.length) (h3:0≤n) (h4:n≤b.Dark):0≤(shOf b h n).Low∧(shOf b h n).Low≤(shOf b h n).High∧(shOf b h n).High≤24:=by
 have hd:=ok.dark
 have hlt:h.toNat<b.Hanks.length:=by omega
 have hs:=(ok.hanks _ (List.getElem_mem hlt)).s
 unfold shOf
 rw [List.getElem?_eq_getElem hlt]
 simp only
 omega
theorem p100 {b:HairBook} (ok:OkH b) {mf:List (Hair_dye×Span)} (hmf:ShOk b mf) {horse:Int} {p:HairHorse} (hp:ixL b.Horses horse=some p) (hw:0≤p.Shade∧p.Shade≤25) {mane tail m t:Int} (a1:0≤mane) (a2:mane<b.Hanks.length) (b1:0≤tail) (b2:tail<b.Hanks.length)
  (m1:0≤m) (m2:m≤b.Dark) (t1:0≤t) (t2:t≤b.Dark):g131 b mf horse ⟨mane,m⟩ ⟨tail,t⟩=some (mB b p.Shade mane tail m t):=by
 have hd:=ok.dark
 have hn:=ok.near
 have hma:=ok.mat
 have hs:=sh_bd ok a1 a2 m1 m2
 have ht:=sh_bd ok b1 b2 t1 t2
 unfold g131
 rw [hp,bsm,hmf mane m a1 a2 m1 m2,hmf tail t b1 b2 t1 t2]
 simp only [Option.getD_some]
 generalize hS:shOf b mane m=s at hs
 generalize hT:shOf b tail t=u at ht
 have g3:∀ a x y z,g134 a [x,y,z]=some (max (max (max a x) y) z):=fun _ _ _ _=>rfl
 have g1:∀ a x,g134 a [x]=some (max a x):=fun _ _=>rfl
 rw [wr_in (show -9223372036854775808≤s.High - p.Shade by omega) (by omega),wr_in (show -9223372036854775808≤p.Shade - s.Low by omega) (by omega),wr_in (show -9223372036854775808≤u.High - p.Shade by omega) (by omega),wr_in (show -9223372036854775808≤p.Shade - u.Low by omega) (by omega),g3,bsm,
  wr_in (show -9223372036854775808≤m - t by omega) (by omega),wr_in (show -9223372036854775808≤-b.Match by omega) (by omega),wr_in (show -9223372036854775808≤s.High - u.Low by omega) (by omega),wr_in (show -9223372036854775808≤u.High - s.Low by omega) (by omega),g1,p57]
 simp only [bsm,cs]
 unfold mB nearB
 rw [hS,hT]
 by_cases hnear:b.Near<max (max (max (s.High - p.Shade) (p.Shade - s.Low)) (u.High - p.Shade)) (p.Shade - u.Low)
 ·rw [decide_eq_true hnear,cond_true]
  have:(decide (s.High - p.Shade≤b.Near)&&decide (p.Shade - s.Low≤b.Near)&&(decide (u.High - p.Shade≤b.Near)&&decide (p.Shade - u.Low≤b.Near)))=false:=by
   rw [Bool.eq_false_iff]
   intro hc
   simp only [Bool.and_eq_true,decide_eq_true_eq] at hc
   omega
  rw [this];rfl
 ·rw [decide_eq_false hnear,cond_false]
  have:(decide (s.High - p.Shade≤b.Near)&&decide (p.Shade - s.Low≤b.Near)&&(decide (u.High - p.Shade≤b.Near)&&decide (p.Shade - u.Low≤b.Near)))=true:=by
   simp only [Bool.and_eq_true,decide_eq_true_eq]
   omega
  rw [this,Bool.true_and]
  by_cases he:mane=tail
  ·rw [decide_eq_true he]
   simp only [cond_true]
   by_cases hmt:m=t
   ·subst he;subst hmt
    have e1:(false != ((mane==mane)&&((m==m)&&true)))=true:=by simp
    have e2:(decide (-b.Match≤m - m)&&decide (m - m≤b.Match))=true:=by
     simp only [Bool.and_eq_true,decide_eq_true_eq];omega
    rw [e1,e2];rfl
   ·have e1:(false != ((mane==tail)&&((m==t)&&true)))=false:=by
     have:(m==t)=false:=by simpa using hmt
     rw [this];simp
    rw [e1];rfl
  ·rw [decide_eq_false he]
   simp only [cond_false]
   congr 1
   rw [Bool.eq_iff_iff]
   simp only [Bool.and_eq_true,decide_eq_true_eq]
   omega
def dyesF (b:HairBook) (want mane tail:Int):Option (Int×Int):=(firstI (fun m=>(firstI (fun t=>mB b want mane tail m t) (b.Dark+1).toNat 0).isSome) (b.Dark+1).toNat 0).map fun m=>(m,(firstI (fun t=>mB b want mane tail m t) (b.Dark+1).toNat 0).getD 0)
theorem p59 {b:HairBook} (ok:OkH b) {mf:List (Hair_dye×Span)} (hmf:ShOk b mf) {horse:Int} {p:HairHorse} (hp:ixL b.Horses horse=some p) (hw:0≤p.Shade∧p.Shade≤25) {mane tail:Int} (a1:0≤mane) (a2:mane<b.Hanks.length) (b1:0≤tail) (b2:tail<b.Hanks.length) :
  g128 b mf horse mane tail=some (match dyesF b p.Shade mane tail with | some x=>(⟨mane,x.1⟩,⟨tail,x.2⟩,true) | none=>(⟨0,0⟩,⟨0,0⟩,false)):=by
 have hd:=ok.dark
 have e:wr (b.Dark+1)=b.Dark+1:=wr_in (by omega) (by omega)
 unfold g128
 rw [e,Int.sub_zero]
 have:=forC_firstU (f:=g128_2 b mf horse mane tail) (fun m=>(firstI (fun t=>mB b p.Shade mane tail m t) (b.Dark+1).toNat 0).isSome) (fun m=>((⟨mane,m⟩:Hair_dye),(⟨tail,(firstI (fun t=>mB b p.Shade mane tail m t) (b.Dark+1).toNat 0).getD 0⟩:Hair_dye),true)) (b.Dark+1).toNat 0 (fun m m1 m2=>by
  have:=forC_firstU (f:=g128_6 b mf horse mane tail m) (fun t=>mB b p.Shade mane tail m t) (fun t=>.brk ((⟨mane,m⟩:Hair_dye),(⟨tail,t⟩:Hair_dye),true)) (b.Dark+1).toNat 0 (fun t t1 t2=>by
   unfold g128_6
   rw [p100 ok hmf hp hw a1 a2 b1 b2 m1 (by omega) t1 (by omega),bsm,cs])
  unfold g128_2
  rw [e,Int.sub_zero,this]
  cases firstI (fun t=>mB b p.Shade mane tail m t) (b.Dark+1).toNat 0<;>rfl)
 rw [this]
 unfold dyesF
 cases firstI (fun m=>(firstI (fun t=>mB b p.Shade mane tail m t) (b.Dark+1).toNat 0).isSome) (b.Dark+1).toNat 0<;>rfl
end Go.Proofs.YtjooihelppcfkaaDoor
namespace Go.Proofs.YtjooihelppcfkaaDoor
open Go.Abs Go.Proofs.Tr
theorem p39 (n:Int) {many:Int} (h1:1≤many) (h2:many≤9223372036854775807):∃ r,g45 n many=some r∧0≤r∧r<many:=by
 have a1:=Int.tmod_lt_of_pos n (show 0<many by omega)
 have a2:=Int.lt_tmod_of_pos n (show 0<many by omega)
 unfold g45
 rw [decide_eq_false (by omega),cond_false,must_t (by simp;omega),bsm]
 by_cases h:n.tmod many<0
 ·rw [decide_eq_true h,cond_true,wr_in (by omega) (by omega)]
  exact ⟨_,rfl,by omega,by omega⟩
 ·rw [decide_eq_false h,cond_false]
  exact ⟨_,rfl,by omega,by omega⟩
end Go.Proofs.YtjooihelppcfkaaDoor
namespace Go.Proofs.YtjooihelppcfkaaDoor
open Go.Abs Go.Proofs.Tr
def partN (b:HairBook) (v:Nat):Int:=match b.Horses[v / 2]? with
 | some h=>bif decide (v % 2=0) then h.Mane else h.Tail
 | none=>0
def cutS (b:HairBook):List Int→Nat→Int→Int
 | [],_,_=>0
 | p::ps,v,k=>(bif decide (p=k) then partN b v else 0)+cutS b ps (v+1) k
theorem partN_bd {b:HairBook} (ok:OkH b) (v:Nat):0≤partN b v∧partN b v≤30:=by
 unfold partN
 cases hh:b.Horses[v / 2]? with
 | none=>simp
 | some h=>
  obtain ⟨h1,h2,_⟩:=ok.horses h (List.mem_of_getElem? hh)
  simp only
  cases decide (v % 2=0)<;>simp only [cond_true,cond_false]<;>omega
theorem cutS_bd {b:HairBook} (ok:OkH b) (k:Int):∀ (ps:List Int) (v:Nat),0≤cutS b ps v k∧cutS b ps v k≤30*ps.length
 | [],v=>by simp [cutS]
 | p::ps,v=>by
  have h1:=partN_bd ok v
  have h2:=cutS_bd ok k ps (v+1)
  rw [cutS,List.length_cons]
  cases decide (p=k)<;>simp only [cond_true,cond_false]<;>omega
def planB (b:HairBook) (plan:List Int):Bool:=decide ((plan.length:Int)=2*(b.Horses.length:Int))&&plan.all fun n=>rg n 0 ((b.Hanks.length:Int) - 1)
structure PlanOk (b:HairBook) (plan:List Int):Prop where
 len:plan.length=2*b.Horses.length
 rng:∀ n,n∈plan→0≤n∧n<b.Hanks.length
theorem plan_of {b:HairBook} {plan:List Int} (h:planB b plan=true):PlanOk b plan:=by
 simp only [planB,Bool.and_eq_true,decide_eq_true_eq,List.all_eq_true,rg_iff] at h
 exact ⟨by omega,fun n hn=>by have:=h.2 n hn;omega⟩
theorem tdiv_nat (v:Nat):(v:Int).tdiv 2=((v / 2:Nat):Int):=rfl
theorem tmod_nat (v:Nat):(v:Int).tmod 2=((v % 2:Nat):Int):=rfl
theorem aset_get (w:Nat→Int) (j k:Nat) (x:Int):aset w j x k=if k=j then x else w k:=by
 unfold aset
 by_cases h:k=j
 ·subst h;simp
 ·rw [if_neg h]
  cases hb:Nat.beq k j with
  | true=>exact absurd (Nat.eq_of_beq_eq_true hb) h
  | false=>rfl
def fitK (b:HairBook) (plan:List Int):Bool:=b.Hanks.zipIdx.all fun y=>!decide (y.1.Weight.Low<cutS b plan 0 (y.2:Int))
def dyeK (b:HairBook) (plan:List Int):Bool:=b.Horses.zipIdx.all fun y=>(dyesF b y.1.Shade ((plan[2*y.2]?).getD 0) ((plan[2*y.2+1]?).getD 0)).isSome
def worksB (b:HairBook) (plan:List Int):Bool:=fitK b plan&&dyeK b plan
end Go.Proofs.YtjooihelppcfkaaDoor
namespace Go.Proofs.YtjooihelppcfkaaDoor
open Go Go.Abs Go.Proofs.Tr
theorem p93 (l:List Int) (hl:(l.length:Int)≤9223372036854775807) (n:Int):∃ r,g51 l n=some r:=by
 unfold g51
 by_cases h0:(l.length:Int)=0
 ·rw [decide_eq_true h0];exact ⟨0,rfl⟩
 ·obtain ⟨r,e,r1,r2⟩:=p39 n (many:=(l.length:Int)) (by omega) hl
  rw [decide_eq_false h0,cond_false,e,bsm]
  obtain ⟨k,rfl⟩:∃ k:Nat,r=(k:Int):=⟨r.toNat,by omega⟩
  rw [ixL_nat,List.getElem?_eq_getElem (show k<l.length by omega)]
  exact ⟨_,rfl⟩
theorem cutS_snoc (b:HairBook) (k p:Int):∀ (ps:List Int) (v:Nat),cutS b (ps++[p]) v k=cutS b ps v k+bif decide (p=k) then partN b (v+ps.length) else 0
 | [],v=>by simp [cutS]
 | q::ps,v=>by
  rw [List.cons_append,cutS,cutS_snoc b k p ps (v+1),cutS,List.length_cons,show v+1+ps.length=v+(ps.length+1) by omega]
  omega
end Go.Proofs.YtjooihelppcfkaaDoor
namespace Go.Proofs.YtjooihelppcfkaaDoor
open Go.Abs Go.Proofs.Tr
def runY {A S:Type} (c:A→S→Option (S×Bool)):List A→S→Option (S×Bool)
 | [],s=>some (s,true)
 | a::l,s=>(c a s).bind fun r=>bif r.2 then runY c l r.1 else some (r.1,false)
theorem runY_append {A S:Type} (c:A→S→Option (S×Bool)):∀ (l m:List A) (s:S),runY c (l++m) s=(runY c l s).bind fun r=>bif r.2 then runY c m r.1 else some (r.1,false)
 | [],m,s=>by simp [runY]
 | a::l,m,s=>by
  rw [List.cons_append,runY,runY]
  cases c a s with
  | none=>rfl
  | some r=>
   obtain ⟨s',go⟩:=r
   cases go with
   | false=>rfl
   | true=>exact runY_append c l m s'
theorem runY_stop {A S X:Type} {B:A→S→Option (Ctl S X)} (r:X) (l:List A) (s:S) (h:∀ a s,B a s=some (.brk r)):runY (fun a s=>rndC B a s) l (.next s)=some (match l with | []=>(.next s,true) | _::_=>(.brk r,false)):=by
 cases l with
 | nil=>rfl
 | cons a l=>
  rw [runY]
  simp only [rndC,h a s,bsm,isNext]
  rfl
def tr (K:Nat) (ok:List Int→Bool):Nat→List Int→List (List Int)
 | 0,p=>bif ok p then [p] else []
 | n+1,p=>bif ok p then (List.range' 0 K).flatMap fun (k:Nat)=>tr K ok n (p++[(k:Int)]) else []
def allp (K:Nat):Nat→List Int→List (List Int)
 | 0,p=>[p]
 | n+1,p=>(List.range' 0 K).flatMap fun (k:Nat)=>allp K n (p++[(k:Int)])
theorem mem_allp {K:Nat} {q:List Int}:∀ {n:Nat} {p:List Int},q∈allp K n p↔∃ l,q=p++l∧l.length=n∧∀ x,x∈l→0≤x∧x<K
 | 0,p=>by
  rw [allp,List.mem_singleton]
  constructor
  ·rintro rfl;exact ⟨[],by simp,rfl,by simp⟩
  ·rintro ⟨l,h1,h2,h3⟩
   rw [List.length_eq_zero_iff.1 h2] at h1;simpa using h1
 | n+1,p=>by
  rw [allp,List.mem_flatMap]
  constructor
  ·rintro ⟨k,hk,hq⟩
   rw [List.mem_range'_1] at hk
   obtain ⟨l,h1,h2,h3⟩:=mem_allp.1 hq
   refine ⟨(k:Int)::l,by rw [h1];simp,by simp [h2],fun x hx=>?_⟩
   rcases List.mem_cons.1 hx with rfl | hx
   ·omega
   ·exact h3 x hx
  ·rintro ⟨l,h1,h2,h3⟩
   cases l with
   | nil=>simp at h2
   | cons x l=>
    have hx:=h3 x (by simp)
    refine ⟨x.toNat,by rw [List.mem_range'_1];omega,mem_allp.2 ⟨l,?_,by simpa using h2,fun y hy=>h3 y (by simp [hy])⟩⟩
    rw [show ((x.toNat:Nat):Int)=x by omega,h1];simp
theorem allp_pre {K:Nat} {ok:List Int→Bool} (hok:∀ p k,ok (p++[k])=true→ok p=true) {q:List Int}:∀ {n:Nat} {p:List Int},q∈allp K n p→ok q=true→ok p=true
 | 0,p,h,hq=>by
  rw [allp,List.mem_singleton] at h
  rw [← h];exact hq
 | n+1,p,h,hq=>by
  rw [allp,List.mem_flatMap] at h
  obtain ⟨k,_,h⟩:=h
  exact hok _ _ (allp_pre hok h hq)
theorem tr_eq {K:Nat} {ok:List Int→Bool} (hok:∀ p k,ok (p++[k])=true→ok p=true):∀ (n:Nat) (p:List Int),tr K ok n p=(allp K n p).filter ok
 | 0,p=>by
  rw [tr,allp,List.filter_cons]
  cases ok p<;>rfl
 | n+1,p=>by
  rw [tr]
  cases hp:ok p with
  | true=>
   rw [cond_true,allp,List.filter_flatMap]
   congr 1
   funext k
   exact tr_eq hok n _
  | false=>
   rw [cond_false,Eq.comm,List.filter_eq_nil_iff]
   intro q hq hc
   have:=allp_pre hok hq hc
   rw [hp] at this;cases this
theorem eachC_run {α A S:Type} {f:Int→α→S→Option (Ctl S (Bool×S))} (c:A→S→Option (S×Bool)) (L:Nat→List A):∀ (xs:List α) (i:Nat) (s:S),(∀ (j:Nat) x s,i≤j→xs[j - i]?=some x→f (j:Int) x s=(runY c (L j) s).map fun r=>bif r.2 then .next r.1 else .brk (false,r.1)) →
  eachC f xs (i:Int) s=(runY c ((List.range' i xs.length).flatMap L) s).map fun r=>bif r.2 then .next r.1 else .brk (false,r.1)
 | [],i,s,h=>rfl
 | x::xs,i,s,h=>by
  rw [eachC,h i x s (Nat.le_refl _) (by simp),List.length_cons,List.range'_succ,List.flatMap_cons,runY_append]
  cases runY c (L i) s with
  | none=>rfl
  | some r=>
   obtain ⟨s',go⟩:=r
   cases go with
   | false=>rfl
   | true=>
    simp only [Option.map_some,bsm,cond_true]
    rw [show (i:Int)+1=((i+1:Nat):Int) by omega]
    exact eachC_run c L xs (i+1) s' (fun j y s hj hy=>h j y s (by omega) (by
     have:j - i=(j - (i+1))+1:=by omega
     rw [this,List.getElem?_cons_succ];exact hy))
def shH (b:HairBook) (i:Nat):Int:=match b.Horses[i]? with | some x=>x.Shade | none=>0
def dyeQ (b:HairBook) (p:List Int):Bool:=(List.range (p.length / 2)).all fun i=>(dyesF b (shH b i) ((p[2*i]?).getD 0) ((p[2*i+1]?).getD 0)).isSome
def fitP (b:HairBook) (by_:Span→Int) (p:List Int):Bool:=b.Hanks.zipIdx.all fun y=>!decide (by_ y.1.Weight<cutS b p 0 (y.2:Int))
def okP (b:HairBook) (by_:Span→Int) (p:List Int):Bool:=fitP b by_ p&&dyeQ b p
theorem fitP_iff {b:HairBook} {by_:Span→Int} {p:List Int}:fitP b by_ p=true↔∀ (k:Nat) x,b.Hanks[k]?=some x→cutS b p 0 (k:Int)≤by_ x.Weight:=by
 unfold fitP
 rw [List.all_eq_true]
 constructor
 ·intro h k x hx
  have:=h (x,k) (by
   rw [List.mem_iff_getElem?]
   exact ⟨k,by rw [List.getElem?_zipIdx,hx];simp⟩)
  simpa using this
 ·intro h y hy
  rw [List.mem_iff_getElem?] at hy
  obtain ⟨k,hk⟩:=hy
  rw [List.getElem?_zipIdx] at hk
  cases hx:b.Hanks[k]? with
  | none=>rw [hx] at hk;cases hk
  | some x=>
   rw [hx] at hk
   simp only [Option.map_some,Option.some.injEq,Nat.zero_add] at hk
   subst hk
   have:=h k x hx
   simpa using this
theorem all_congr {α:Type} {f g:α→Bool}:∀ {l:List α},(∀ x,x∈l→f x=g x)→l.all f=l.all g
 | [],h=>rfl
 | x::l,h=>by rw [List.all_cons,List.all_cons,h x (by simp),all_congr (fun y hy=>h y (by simp [hy]))]
theorem dyeQ_snoc (b:HairBook) (p:List Int) (k:Int):dyeQ b (p++[k])=(dyeQ b p&&bif decide (p.length % 2=1) then (dyesF b (shH b (p.length / 2)) ((p[p.length - 1]?).getD 0) k).isSome else true):=by
 have hc:∀ i,i<p.length / 2→(dyesF b (shH b i) (((p++[k])[2*i]?).getD 0) (((p++[k])[2*i+1]?).getD 0)).isSome=(dyesF b (shH b i) ((p[2*i]?).getD 0) ((p[2*i+1]?).getD 0)).isSome:=fun i hi=>by
  rw [List.getElem?_append_left (by omega),List.getElem?_append_left (by omega)]
 unfold dyeQ
 rw [List.length_append,List.length_singleton]
 by_cases h:p.length % 2=1
 ·rw [decide_eq_true h,cond_true,show (p.length+1) / 2=p.length / 2+1 by omega,List.range_succ,List.all_append,all_congr (fun i hi=>hc i (List.mem_range.1 hi))]
  congr 1
  rw [List.all_cons,List.all_nil,Bool.and_true,List.getElem?_append_left (by omega),List.getElem?_append_right (by omega),show 2*(p.length / 2)+1 - p.length=0 by omega,show 2*(p.length / 2)=p.length - 1 by omega]
  rfl
 ·rw [decide_eq_false h,cond_false,Bool.and_true,show (p.length+1) / 2=p.length / 2 by omega,all_congr (fun i hi=>hc i (List.mem_range.1 hi))]
theorem fitP_snoc {b:HairBook} (ok:OkH b) {by_:Span→Int} {p:List Int} (hp:fitP b by_ p=true) {k:Nat} {x:HairHank} (hx:b.Hanks[k]?=some x):fitP b by_ (p++[(k:Int)])=!decide (by_ x.Weight<cutS b p 0 (k:Int)+partN b p.length):=by
 rw [fitP_iff] at hp
 rw [Bool.eq_iff_iff,fitP_iff]
 simp only [Bool.not_eq_true',decide_eq_false_iff_not,Int.not_lt]
 constructor
 ·intro h
  have:=h k x hx
  rw [cutS_snoc,decide_eq_true rfl,cond_true,Nat.zero_add] at this
  exact this
 ·intro h j y hy
  rw [cutS_snoc,Nat.zero_add]
  by_cases e:(k:Int)=(j:Int)
  ·have:j=k:=by omega
   subst this
   rw [decide_eq_true rfl,cond_true]
   rw [hx] at hy;cases hy;exact h
  ·rw [decide_eq_false e,cond_false]
   have:=hp j y hy
   omega
theorem okP_snoc {b:HairBook} (ok:OkH b) {by_:Span→Int} {p:List Int} (hp:okP b by_ p=true) {k:Nat} {x:HairHank} (hx:b.Hanks[k]?=some x):okP b by_ (p++[(k:Int)])=(!decide (by_ x.Weight<cutS b p 0 (k:Int)+partN b p.length)&&bif decide (p.length % 2=1) then (dyesF b (shH b (p.length / 2)) ((p[p.length - 1]?).getD 0) (k:Int)).isSome else true):=by
 unfold okP at hp ⊢
 rw [Bool.and_eq_true] at hp
 rw [fitP_snoc ok hp.1 hx,dyeQ_snoc,hp.2,Bool.true_and]
theorem fitP_pre {b:HairBook} (ok:OkH b) {by_:Span→Int} {p:List Int} {k:Int} (h:fitP b by_ (p++[k])=true):fitP b by_ p=true:=by
 rw [fitP_iff] at h ⊢
 intro j x hx
 have:=h j x hx
 rw [cutS_snoc,Nat.zero_add] at this
 have hb:=partN_bd ok p.length
 cases hd:decide (k=(j:Int))<;>rw [hd] at this<;>simp only [cond_true,cond_false] at this<;>omega
theorem okP_pre {b:HairBook} (ok:OkH b) {by_:Span→Int} (p:List Int) (k:Int) (h:okP b by_ (p++[k])=true):okP b by_ p=true:=by
 unfold okP at h ⊢
 rw [Bool.and_eq_true] at h ⊢
 refine ⟨fitP_pre ok h.1,?_⟩
 rw [dyeQ_snoc,Bool.and_eq_true] at h
 exact h.2.1
def cutF (b:HairBook) (p:List Int):Nat→Int:=fun k=>cutS b p 0 (k:Int)
theorem p112 {S:Type} (c:List Int→(Nat→Int)→S→Option (S×Bool)) {b:HairBook} (ok:OkH b) {mf:List (Hair_dye×Span)} (hmf:ShOk b mf):∀ (n fuel:Nat) (p:List Int) (s:S),p.length+n=2*b.Horses.length→n+1≤fuel→(∀ x,x∈p→0≤x∧x<b.Hanks.length)→okP b (·.Low) p=true →
  g125 c fuel p (cutF b p) b mf b mf s=(runY (fun q s=>c q (cutF b q) s) (tr b.Hanks.length (okP b (·.Low)) n p) s).map fun r=>(r.2,r.1)
 | 0,fuel,p,s,hl,hf,hr,ho=>by
  have h3:=ok.l3
  obtain ⟨fuel,rfl⟩:∃ j,fuel=j+1:=⟨fuel - 1,by omega⟩
  rw [g125,wr_in (by omega) (by omega),decide_eq_true (show (p.length:Int)=2*(b.Horses.length:Int) by omega),cond_true,tr,ho,cond_true,runY]
  cases c p (cutF b p) s with
  | none=>rfl
  | some r=>obtain ⟨s',go⟩:=r;cases go<;>rfl
 | n+1,fuel,p,s,hl,hf,hr,ho=>by
  have h3:=ok.l3
  have h4:=ok.l4
  obtain ⟨fuel,rfl⟩:∃ j,fuel=j+1:=⟨fuel - 1,by omega⟩
  have hlt:p.length / 2<b.Horses.length:=by omega
  have hpn:=partN_bd ok p.length
  have hH:=ok.horses _ (List.getElem_mem hlt)
  rw [g125,wr_in (by omega) (by omega),decide_eq_false (show ¬ (p.length:Int)=2*(b.Horses.length:Int) by omega),cond_false,tdiv_nat,tmod_nat,ixN_nat (show p.length % 2<2 by omega)]
  rw [wr_in (show -9223372036854775808≤((p.length / 2:Nat):Int) by omega) (by omega)]
  rw [ixL_nat,List.getElem?_eq_getElem hlt]
  have key:∀ {X:Option Int} {F:Int→Option (Bool×S)} {R:Option (Bool×S)},X=some (partN b p.length)→F (partN b p.length)=R→X.bind F=R:=by
   intro X F R h1 h2;rw [h1];exact h2
  refine key ?_ ?_
  ·unfold partN
   rw [List.getElem?_eq_getElem hlt]
   have hm:p.length % 2=0∨p.length % 2=1:=by omega
   rcases hm with hm | hm<;>rw [hm]<;>rfl
  have hstep:∀ (j:Nat) (x:HairHank) (s:S),0≤j→b.Hanks[j - 0]?=some x→g125_16 (g125 c fuel) p (cutF b p) b mf b mf (partN b p.length) (j:Int) x s=(runY (fun q s=>c q (cutF b q) s) (tr b.Hanks.length (okP b (·.Low)) n (p++[(j:Int)])) s).map fun r=>bif r.2 then .next r.1 else .brk (false,r.1):=fun j x s _ hx=>by
   rw [Nat.sub_zero] at hx
   have hj:=(List.getElem?_eq_some_iff.1 hx).1
   have hcut:=cutS_bd ok (j:Int) p 0
   have hsn:=okP_snoc ok ho hx
   have hshH:shH b (p.length / 2)=b.Horses[p.length / 2].Shade:=by
    unfold shH;rw [List.getElem?_eq_getElem hlt]
   unfold g125_16
   rw [ixN_nat (show j<5 by omega),bsm]
   simp only [g127,bsm]
   rw [show cutF b p j=cutS b p 0 (j:Int) from rfl,wr_in (show -9223372036854775808≤cutS b p 0 (j:Int)+partN b p.length by omega) (by omega)]
   have hgo:okP b (·.Low) (p++[(j:Int)])=true→(slcL p 0 (p.length:Int)).bind (fun l=>(appL 8 l [(j:Int)]).bind fun l1=>(g125 c fuel l1 (aset (cutF b p) j (cutS b p 0 (j:Int)+partN b p.length)) b mf b mf s).bind fun (r:Bool×S)=>bif (!r.1) then some (.brk (false,r.2)) else some (.next r.2))=(runY (fun q s=>c q (cutF b q) s) (tr b.Hanks.length (okP b (·.Low)) n (p++[(j:Int)])) s).map fun r=>bif r.2 then (.next r.1:Ctl S (Bool×S)) else .brk (false,r.1):=fun hk=>by
    rw [slcL_all,bsm,appL_ok (by rw [List.length_append,List.length_singleton];omega),bsm]
    have hw:aset (cutF b p) j (cutS b p 0 (j:Int)+partN b p.length)=cutF b (p++[(j:Int)]):=by
     funext i
     rw [aset_get]
     unfold cutF
     rw [cutS_snoc,Nat.zero_add]
     by_cases e:i=j
     ·subst e;rw [if_pos rfl,decide_eq_true rfl,cond_true]
     ·rw [if_neg e,decide_eq_false (by omega),cond_false,Int.add_zero]
    rw [hw,p112 c ok hmf n fuel (p++[(j:Int)]) s (by rw [List.length_append,List.length_singleton];omega) (by omega) (fun x hx=>by
     rcases List.mem_append.1 hx with hx | hx
     ·exact hr x hx
     ·rw [List.mem_singleton] at hx;omega) hk]
    cases runY (fun q s=>c q (cutF b q) s) (tr b.Hanks.length (okP b (·.Low)) n (p++[(j:Int)])) s with
    | none=>rfl
    | some r=>obtain ⟨s',go⟩:=r;cases go<;>rfl
   have hno:okP b (·.Low) (p++[(j:Int)])=false→(some (.next s):Option (Ctl S (Bool×S)))=(runY (fun q s=>c q (cutF b q) s) (tr b.Hanks.length (okP b (·.Low)) n (p++[(j:Int)])) s).map fun r=>bif r.2 then .next r.1 else .brk (false,r.1):=fun hk=>by
    have:tr b.Hanks.length (okP b (·.Low)) n (p++[(j:Int)])=[]:=by
     cases n<;>rw [tr,hk]<;>rfl
    rw [this];rfl
   by_cases h1:x.Weight.Low<cutS b p 0 (j:Int)+partN b p.length
   ·rw [decide_eq_true h1] at hsn ⊢
    simp only [cond_true,bindC]
    exact hno (by rw [hsn];rfl)
   ·rw [decide_eq_false h1] at hsn ⊢
    simp only [cond_false,Bool.not_false,Bool.true_and] at hsn ⊢
    by_cases h2:p.length % 2=1
    ·have hlast:p.length - 1<p.length:=by omega
     have hlr:=hr _ (List.getElem_mem hlast)
     rw [decide_eq_true h2,cond_true,List.getElem?_eq_getElem hlast,Option.getD_some,hshH] at hsn
     rw [tmod_nat,tdiv_nat,wr_in (show -9223372036854775808≤((p.length / 2:Nat):Int) by omega) (by omega),decide_eq_true (show ((p.length % 2:Nat):Int)=1 by omega),cond_true,wr_in (show -9223372036854775808≤(p.length:Int) - 1 by omega) (by omega),show (p.length:Int) - 1=((p.length - 1:Nat):Int) by omega,ixL_nat,List.getElem?_eq_getElem hlast,bsm,g121,p59 ok hmf (horse:=((p.length / 2:Nat):Int)) (p:=b.Horses[p.length / 2]) (by rw [ixL_nat,List.getElem?_eq_getElem hlt]) hH.2.2 hlr.1 hlr.2 (show (0:Int)≤(j:Int) by omega) (by omega)]
     cases hd:dyesF b b.Horses[p.length / 2].Shade p[p.length - 1] (j:Int) with
     | none=>
      rw [hd] at hsn
      simp only [bsm,Bool.not_false,cond_true,bindC]
      exact hno hsn
     | some d=>
      rw [hd] at hsn
      simp only [bsm,Bool.not_true,cond_false,bindC]
      exact hgo hsn
    ·rw [decide_eq_false h2,cond_false] at hsn
     rw [tmod_nat,decide_eq_false (show ¬ ((p.length % 2:Nat):Int)=1 by omega),cond_false]
     simp only [bindC,bsm]
     exact hgo hsn
  have:=eachC_run (f:=g125_16 (g125 c fuel) p (cutF b p) b mf b mf (partN b p.length)) (fun q s=>c q (cutF b q) s) (fun j=>tr b.Hanks.length (okP b (·.Low)) n (p++[(j:Int)])) b.Hanks 0 s hstep
  rw [show ((0:Nat):Int)=0 from rfl] at this
  rw [this,tr,ho,cond_true]
  cases runY (fun q s=>c q (cutF b q) s) ((List.range' 0 b.Hanks.length).flatMap fun (k:Nat)=>tr b.Hanks.length (okP b (·.Low)) n (p++[(k:Int)])) s with
  | none=>rfl
  | some r=>obtain ⟨s',go⟩:=r;cases go<;>rfl
def plansL (b:HairBook) (by_:Span→Int):List (List Int):=(allp b.Hanks.length (2*b.Horses.length) []).filter (okP b by_)
theorem okP_nil {b:HairBook} {by_:Span→Int} (h:∀ x,x∈b.Hanks→0≤by_ x.Weight):okP b by_ []=true:=by
 unfold okP
 rw [Bool.and_eq_true]
 refine ⟨fitP_iff.2 fun k x hx=>?_,rfl⟩
 have:=h x (List.mem_of_getElem? hx)
 simp only [cutS];exact this
theorem cutF_nil (b:HairBook):arrL [(0:Int),0,0,0,0]=cutF b []:=by
 funext k
 match k with
 | 0=>rfl
 | 1=>rfl
 | 2=>rfl
 | 3=>rfl
 | 4=>rfl
 | k+5=>rfl
theorem p111 {S:Type} (c:List Int→(Nat→Int)→S→Option (S×Bool)) {b:HairBook} (ok:OkH b) {mf:List (Hair_dye×Span)} (hmf:ShOk b mf) (s:S):g124 c b mf b mf s=(runY (fun q s=>c q (cutF b q) s) (plansL b (·.Low)) s).map (·.1):=by
 have h3:=ok.l3
 unfold g124 g126
 rw [bsm,cutF_nil b,p112 c ok hmf (2*b.Horses.length) 1000 [] s (by simp) (by omega) (by simp) (okP_nil fun x hx=>by have:=(ok.hanks x hx).w;omega),tr_eq (okP_pre ok)]
 unfold plansL
 cases runY (fun q s=>c q (cutF b q) s) ((allp b.Hanks.length (2*b.Horses.length) []).filter (okP b (·.Low))) s<;>rfl
def servedB (b:HairBook):Bool:=!(plansL b (·.Low)).isEmpty
theorem p84 {b:HairBook} (ok:OkH b) {mf:List (Hair_dye×Span)} (hmf:ShOk b mf):g112 b mf=some (servedB b):=by
 unfold g112 g120 g119
 rw [bsm,bsm]
 simp only
 rw [p111 _ ok hmf]
 have:=runY_stop (B:=fun q u=>g112_r5 (q,cutF b q) u) (X:=Unit) () (plansL b (·.Low)) () (fun a s=>rfl)
 unfold servedB
 have e:runY (fun q s=>rndC g112_r5 (q,cutF b q) s) (plansL b (·.Low)) (.next ())=runY (fun a s=>rndC (fun q u=>g112_r5 (q,cutF b q) u) a s) (plansL b (·.Low)) (.next ()):=by
  congr 1
 rw [e,this]
 cases plansL b (·.Low)<;>rfl
theorem dyeQ_full {b:HairBook} {p:List Int} (hp:p.length=2*b.Horses.length):dyeQ b p=dyeK b p:=by
 unfold dyeQ dyeK
 rw [hp,show 2*b.Horses.length / 2=b.Horses.length by omega,Bool.eq_iff_iff,List.all_eq_true,List.all_eq_true]
 constructor
 ·intro h y hy
  rw [List.mem_iff_getElem?] at hy
  obtain ⟨k,hk⟩:=hy
  rw [List.getElem?_zipIdx] at hk
  cases hx:b.Horses[k]? with
  | none=>rw [hx] at hk;cases hk
  | some x=>
   rw [hx] at hk
   simp only [Option.map_some,Option.some.injEq,Nat.zero_add] at hk
   subst hk
   have:=h k (List.mem_range.2 (List.getElem?_eq_some_iff.1 hx).1)
   unfold shH at this
   rw [hx] at this
   exact this
 ·intro h k hk
  have hlt:=List.mem_range.1 hk
  have:=h (b.Horses[k],k) (by
   rw [List.mem_iff_getElem?]
   exact ⟨k,by rw [List.getElem?_zipIdx,List.getElem?_eq_getElem hlt];simp⟩)
  unfold shH
  rw [List.getElem?_eq_getElem hlt]
  exact this
theorem planB_iff {b:HairBook} {p:List Int}:planB b p=true↔p.length=2*b.Horses.length∧∀ n,n∈p→0≤n∧n<b.Hanks.length:=by
 constructor
 ·intro h;have:=plan_of h;exact ⟨this.len,this.rng⟩
 ·rintro ⟨h1,h2⟩
  simp only [planB,Bool.and_eq_true,decide_eq_true_eq,List.all_eq_true,rg_iff]
  exact ⟨by omega,fun n hn=>by have:=h2 n hn;omega⟩
theorem mem_allP {b:HairBook} {p:List Int}:p∈allp b.Hanks.length (2*b.Horses.length) []↔planB b p=true:=by
 rw [mem_allp,planB_iff]
 constructor
 ·rintro ⟨l,h1,h2,h3⟩
  rw [List.nil_append] at h1
  subst h1;exact ⟨h2,h3⟩
 ·rintro ⟨h1,h2⟩;exact ⟨p,rfl,h1,h2⟩
theorem mem_plans {b:HairBook} {p:List Int}:p∈plansL b (·.Low)↔planB b p=true∧worksB b p=true:=by
 unfold plansL
 rw [List.mem_filter,mem_allP]
 constructor
 ·rintro ⟨h1,h2⟩
  refine ⟨h1,?_⟩
  unfold okP at h2
  rw [dyeQ_full (planB_iff.1 h1).1] at h2
  exact h2
 ·rintro ⟨h1,h2⟩
  refine ⟨h1,?_⟩
  unfold okP
  rw [dyeQ_full (planB_iff.1 h1).1]
  exact h2
theorem served_iff {b:HairBook}:servedB b=true↔∃ p,planB b p=true∧worksB b p=true:=by
 unfold servedB
 constructor
 ·intro h
  cases hl:plansL b (·.Low) with
  | nil=>rw [hl] at h;cases h
  | cons p l=>exact ⟨p,mem_plans.1 (by rw [hl];simp)⟩
 ·rintro ⟨p,hp⟩
  cases hl:plansL b (·.Low) with
  | nil=>have:=mem_plans.2 hp;rw [hl] at this;cases this
  | cons q l=>rfl
end Go.Proofs.YtjooihelppcfkaaDoor
namespace Go.Proofs.YtjooihelppcfkaaDoor
open Go.Abs Go.Proofs.Tr
theorem p96_loop (n:Int):∀ (l:List Int) (i:Int),0≤i→∃ c,eachC (g41_2 n) l i ()=some c∧((n∈l∧∃ j,c=.brk j∧0≤j)∨(¬ n∈l∧c=.next ()))
 | [],i,h=>⟨_,rfl,.inr ⟨by simp,rfl⟩⟩
 | x::l,i,h=>by
  rw [eachC]
  by_cases e:x=n
  ·refine ⟨.brk i,?_,.inl ⟨by simp [e],i,rfl,h⟩⟩
   simp [g41_2,e,bsm]
  ·obtain ⟨c,h1,h2⟩:=p96_loop n l (i+1) (by omega)
   refine ⟨c,?_,?_⟩
   ·simpa [g41_2,e,bsm] using h1
   ·have:n∈x::l↔n∈l:=by simp [show ¬ n=x from fun h=>e h.symm]
    rw [this];exact h2
theorem p96 (l:List Int) (n:Int):∃ j,g41 l n=some j∧(0≤j↔n∈l):=by
 obtain ⟨c,h1,h2⟩:=p96_loop n l 0 (by omega)
 unfold g41
 rw [h1]
 rcases h2 with ⟨h2,j,rfl,h3⟩ | ⟨h2,rfl⟩
 ·exact ⟨j,rfl,fun _=>h2,fun _=>h3⟩
 ·exact ⟨-1,rfl,fun h=>by omega,fun h=>absurd h h2⟩
end Go.Proofs.YtjooihelppcfkaaDoor
set_option maxRecDepth 100000
namespace Go.Proofs.YtjooihelppcfkaaDoor
open Go Go.Abs Go.Proofs.Tr
def LT (H s:Nat):List Int:=(g74 (s:Int) (H:Int)).getD []
def rk (H s:Nat):Nat:=((List.range (2 ^ H)).filter fun t=>g114 (LT H t) (LT H s)==some true).length
def keepL (xs:List HairHorse) (l:List Int):List HairHorse:=(xs.zipIdx.filter fun y=>!decide ((y.2:Int)∈l)).map (·.1)
def cmpP (l best:List Int):Option Bool:=bif (decide ((best.length:Int)<(l.length:Int))) then (some true) else (bif (decide ((l.length:Int)=(best.length:Int))) then ((g110 l best).bind fun r0_3=>some (decide (0≤r0_3))) else (some false))
theorem fact48:((List.range 4).all fun T=>(List.range (2 ^ T)).all fun s=>g74 (s:Int) (T:Int)==some (LT T s))=true:=by kernel_rfl
theorem factC:((List.range 4).all fun T=>(List.range (2 ^ T)).all fun s=>(List.range (2 ^ T)).all fun t=>cmpP (LT T s) (LT T t)==some (!decide (rk T s<rk T t)))=true:=by kernel_rfl
theorem factS:((List.range 4).all fun T=>shl64 1 (T:Int)==((2 ^ T:Nat):Int))=true:=by kernel_rfl
theorem factZ:((List.range 4).all fun T=>(LT T 0==[])&&(rk T 0==0)&&((LT T (2 ^ T - 1)).length==T)&&((List.range (2 ^ T)).all fun s=>(s==0)||!((LT T s).length==0)))=true:=by kernel_rfl
theorem all2 {P:Nat→Nat→Bool} (h:((List.range 4).all fun T=>(List.range (2 ^ T)).all fun s=>P T s)=true) {T s:Nat} (hT:T≤3) (hs:s<2 ^ T):P T s=true:=by
 rw [List.all_eq_true] at h
 have:=h T (List.mem_range.2 (by omega))
 rw [List.all_eq_true] at this
 exact this s (List.mem_range.2 hs)
theorem all3 {P:Nat→Nat→Nat→Bool} (h:((List.range 4).all fun T=>(List.range (2 ^ T)).all fun s=>(List.range (2 ^ T)).all fun t=>P T s t)=true) {T s t:Nat} (hT:T≤3) (hs:s<2 ^ T) (ht:t<2 ^ T):P T s t=true:=by
 have:=all2 h hT hs
 rw [List.all_eq_true] at this
 exact this t (List.mem_range.2 ht)
theorem f48 {T s:Nat} (hT:T≤3) (hs:s<2 ^ T):g74 (s:Int) (T:Int)=some (LT T s):=by simpa using all2 fact48 hT hs
theorem fC {T s t:Nat} (hT:T≤3) (hs:s<2 ^ T) (ht:t<2 ^ T):cmpP (LT T s) (LT T t)=some (!decide (rk T s<rk T t)):=by
 have:=all3 factC hT hs ht
 rw [beq_iff_eq] at this;exact this
theorem fS {T:Nat} (hT:T≤3):shl64 1 (T:Int)=((2 ^ T:Nat):Int):=by
 have:=factS
 rw [List.all_eq_true] at this
 have:=this T (List.mem_range.2 (by omega))
 rw [beq_iff_eq] at this;exact this
theorem fz0 {T:Nat} (hT:T≤3):LT T 0=[]∧rk T 0=0∧(LT T (2 ^ T - 1)).length=T∧∀ s,s<2 ^ T→(LT T s).length=0→s=0:=by
 have:=factZ
 rw [List.all_eq_true] at this
 have:=this T (List.mem_range.2 (by omega))
 rw [Bool.and_eq_true,Bool.and_eq_true,Bool.and_eq_true,beq_iff_eq,beq_iff_eq,beq_iff_eq,List.all_eq_true] at this
 obtain ⟨⟨⟨h1,h2⟩,h3⟩,h4⟩:=this
 refine ⟨h1,h2,h3,fun s hs h=>?_⟩
 have:=h4 s (List.mem_range.2 hs)
 rw [Bool.or_eq_true,beq_iff_eq,h] at this
 simpa using this
theorem pow_pos' (T:Nat):1≤2 ^ T:=Nat.one_le_two_pow
theorem pow_le' {T:Nat} (hT:T≤3):2 ^ T≤8:=Nat.pow_le_pow_right (by decide) hT
theorem ks0_0:eachS (g91_14 0) ([]:List HairHorse) 0 (([],[]):List Int×List HairHorse)=some (LT 0 0,keepL [] (LT 0 0)):=by kernel_rfl
theorem kl0_0:(keepL [] (LT 0 0)).length+(LT 0 0).length=0:=by kernel_rfl
theorem ks1_0 (a:HairHorse):eachS (g91_14 0) ([a]:List HairHorse) 0 (([],[]):List Int×List HairHorse)=some (LT 1 0,keepL [a] (LT 1 0)):=by kernel_rfl
theorem kl1_0 (a:HairHorse):(keepL [a] (LT 1 0)).length+(LT 1 0).length=1:=by kernel_rfl
theorem ks1_1 (a:HairHorse):eachS (g91_14 1) ([a]:List HairHorse) 0 (([],[]):List Int×List HairHorse)=some (LT 1 1,keepL [a] (LT 1 1)):=by kernel_rfl
theorem kl1_1 (a:HairHorse):(keepL [a] (LT 1 1)).length+(LT 1 1).length=1:=by kernel_rfl
theorem ks2_0 (a b:HairHorse):eachS (g91_14 0) ([a,b]:List HairHorse) 0 (([],[]):List Int×List HairHorse)=some (LT 2 0,keepL [a,b] (LT 2 0)):=by kernel_rfl
theorem kl2_0 (a b:HairHorse):(keepL [a,b] (LT 2 0)).length+(LT 2 0).length=2:=by kernel_rfl
theorem ks2_1 (a b:HairHorse):eachS (g91_14 1) ([a,b]:List HairHorse) 0 (([],[]):List Int×List HairHorse)=some (LT 2 1,keepL [a,b] (LT 2 1)):=by kernel_rfl
theorem kl2_1 (a b:HairHorse):(keepL [a,b] (LT 2 1)).length+(LT 2 1).length=2:=by kernel_rfl
theorem ks2_2 (a b:HairHorse):eachS (g91_14 2) ([a,b]:List HairHorse) 0 (([],[]):List Int×List HairHorse)=some (LT 2 2,keepL [a,b] (LT 2 2)):=by kernel_rfl
theorem kl2_2 (a b:HairHorse):(keepL [a,b] (LT 2 2)).length+(LT 2 2).length=2:=by kernel_rfl
theorem ks2_3 (a b:HairHorse):eachS (g91_14 3) ([a,b]:List HairHorse) 0 (([],[]):List Int×List HairHorse)=some (LT 2 3,keepL [a,b] (LT 2 3)):=by kernel_rfl
theorem kl2_3 (a b:HairHorse):(keepL [a,b] (LT 2 3)).length+(LT 2 3).length=2:=by kernel_rfl
theorem ks3_0 (a b c:HairHorse):eachS (g91_14 0) ([a,b,c]:List HairHorse) 0 (([],[]):List Int×List HairHorse)=some (LT 3 0,keepL [a,b,c] (LT 3 0)):=by kernel_rfl
theorem kl3_0 (a b c:HairHorse):(keepL [a,b,c] (LT 3 0)).length+(LT 3 0).length=3:=by kernel_rfl
theorem ks3_1 (a b c:HairHorse):eachS (g91_14 1) ([a,b,c]:List HairHorse) 0 (([],[]):List Int×List HairHorse)=some (LT 3 1,keepL [a,b,c] (LT 3 1)):=by kernel_rfl
theorem kl3_1 (a b c:HairHorse):(keepL [a,b,c] (LT 3 1)).length+(LT 3 1).length=3:=by kernel_rfl
theorem ks3_2 (a b c:HairHorse):eachS (g91_14 2) ([a,b,c]:List HairHorse) 0 (([],[]):List Int×List HairHorse)=some (LT 3 2,keepL [a,b,c] (LT 3 2)):=by kernel_rfl
theorem kl3_2 (a b c:HairHorse):(keepL [a,b,c] (LT 3 2)).length+(LT 3 2).length=3:=by kernel_rfl
theorem ks3_3 (a b c:HairHorse):eachS (g91_14 3) ([a,b,c]:List HairHorse) 0 (([],[]):List Int×List HairHorse)=some (LT 3 3,keepL [a,b,c] (LT 3 3)):=by kernel_rfl
theorem kl3_3 (a b c:HairHorse):(keepL [a,b,c] (LT 3 3)).length+(LT 3 3).length=3:=by kernel_rfl
theorem ks3_4 (a b c:HairHorse):eachS (g91_14 4) ([a,b,c]:List HairHorse) 0 (([],[]):List Int×List HairHorse)=some (LT 3 4,keepL [a,b,c] (LT 3 4)):=by kernel_rfl
theorem kl3_4 (a b c:HairHorse):(keepL [a,b,c] (LT 3 4)).length+(LT 3 4).length=3:=by kernel_rfl
theorem ks3_5 (a b c:HairHorse):eachS (g91_14 5) ([a,b,c]:List HairHorse) 0 (([],[]):List Int×List HairHorse)=some (LT 3 5,keepL [a,b,c] (LT 3 5)):=by kernel_rfl
theorem kl3_5 (a b c:HairHorse):(keepL [a,b,c] (LT 3 5)).length+(LT 3 5).length=3:=by kernel_rfl
theorem ks3_6 (a b c:HairHorse):eachS (g91_14 6) ([a,b,c]:List HairHorse) 0 (([],[]):List Int×List HairHorse)=some (LT 3 6,keepL [a,b,c] (LT 3 6)):=by kernel_rfl
theorem kl3_6 (a b c:HairHorse):(keepL [a,b,c] (LT 3 6)).length+(LT 3 6).length=3:=by kernel_rfl
theorem ks3_7 (a b c:HairHorse):eachS (g91_14 7) ([a,b,c]:List HairHorse) 0 (([],[]):List Int×List HairHorse)=some (LT 3 7,keepL [a,b,c] (LT 3 7)):=by kernel_rfl
theorem kl3_7 (a b c:HairHorse):(keepL [a,b,c] (LT 3 7)).length+(LT 3 7).length=3:=by kernel_rfl
theorem ks {xs:List HairHorse} (hl:xs.length≤3) {s:Nat} (hs:s<2 ^ xs.length):eachS (g91_14 (s:Int)) xs 0 (([],[]):List Int×List HairHorse)=some (LT xs.length s,keepL xs (LT xs.length s)):=by
 match xs,hl,s,hs with
 | [],_,0,_=>exact ks0_0
 | [],_,s+1,hs=>exact absurd hs (by simp)
 | [a],_,0,_=>exact ks1_0 a
 | [a],_,1,_=>exact ks1_1 a
 | [a],_,s+2,hs=>exact absurd hs (by simp)
 | [a,b],_,0,_=>exact ks2_0 a b
 | [a,b],_,1,_=>exact ks2_1 a b
 | [a,b],_,2,_=>exact ks2_2 a b
 | [a,b],_,3,_=>exact ks2_3 a b
 | [a,b],_,s+4,hs=>exact absurd hs (by simp)
 | [a,b,c],_,0,_=>exact ks3_0 a b c
 | [a,b,c],_,1,_=>exact ks3_1 a b c
 | [a,b,c],_,2,_=>exact ks3_2 a b c
 | [a,b,c],_,3,_=>exact ks3_3 a b c
 | [a,b,c],_,4,_=>exact ks3_4 a b c
 | [a,b,c],_,5,_=>exact ks3_5 a b c
 | [a,b,c],_,6,_=>exact ks3_6 a b c
 | [a,b,c],_,7,_=>exact ks3_7 a b c
 | [a,b,c],_,s+8,hs=>exact absurd hs (by simp)
 | _::_::_::_::_,hl,_,_=>exact absurd hl (by simp)
theorem kl {xs:List HairHorse} (hl:xs.length≤3) {s:Nat} (hs:s<2 ^ xs.length):(keepL xs (LT xs.length s)).length+(LT xs.length s).length=xs.length:=by
 match xs,hl,s,hs with
 | [],_,0,_=>exact kl0_0
 | [],_,s+1,hs=>exact absurd hs (by simp)
 | [a],_,0,_=>exact kl1_0 a
 | [a],_,1,_=>exact kl1_1 a
 | [a],_,s+2,hs=>exact absurd hs (by simp)
 | [a,b],_,0,_=>exact kl2_0 a b
 | [a,b],_,1,_=>exact kl2_1 a b
 | [a,b],_,2,_=>exact kl2_2 a b
 | [a,b],_,3,_=>exact kl2_3 a b
 | [a,b],_,s+4,hs=>exact absurd hs (by simp)
 | [a,b,c],_,0,_=>exact kl3_0 a b c
 | [a,b,c],_,1,_=>exact kl3_1 a b c
 | [a,b,c],_,2,_=>exact kl3_2 a b c
 | [a,b,c],_,3,_=>exact kl3_3 a b c
 | [a,b,c],_,4,_=>exact kl3_4 a b c
 | [a,b,c],_,5,_=>exact kl3_5 a b c
 | [a,b,c],_,6,_=>exact kl3_6 a b c
 | [a,b,c],_,7,_=>exact kl3_7 a b c
 | [a,b,c],_,s+8,hs=>exact absurd hs (by simp)
 | _::_::_::_::_,hl,_,_=>exact absurd hl (by simp)
def woS (b:HairBook) (s:Nat):HairBook:=⟨b.Hanks,keepL b.Horses (LT b.Horses.length s),b.Dark,b.Near,b.Match⟩
theorem keepL_mem {xs:List HairHorse} {l:List Int} {x:HairHorse} (h:x∈keepL xs l):x∈xs:=by
 unfold keepL at h
 rw [List.mem_map] at h
 obtain ⟨y,hy,rfl⟩:=h
 have hm:=(List.mem_filter.1 hy).1
 rw [List.mem_iff_getElem?] at hm
 obtain ⟨k,hk⟩:=hm
 rw [List.getElem?_zipIdx] at hk
 cases hx:xs[k]? with
 | none=>rw [hx] at hk;cases hk
 | some z=>
  rw [hx] at hk
  simp only [Option.map_some,Option.some.injEq] at hk
  rw [← hk]
  exact List.mem_of_getElem? hx
theorem keepL_len (xs:List HairHorse) (l:List Int):(keepL xs l).length≤xs.length:=by
 unfold keepL
 rw [List.length_map]
 exact Nat.le_trans (List.length_filter_le _ _) (by rw [List.length_zipIdx];exact Nat.le_refl _)
theorem okW {b:HairBook} (hok:okH b=true) (s:Nat):okH (woS b s)=true:=by
 have hl:=keepL_len b.Horses (LT b.Horses.length s)
 unfold okH at hok ⊢
 simp only [Bool.and_eq_true,decide_eq_true_eq,List.all_eq_true] at hok ⊢
 obtain ⟨⟨⟨⟨⟨⟨h1,h2⟩,h3⟩,h4⟩,h5⟩,h6⟩,h7⟩:=hok
 refine ⟨⟨⟨⟨⟨⟨h1,?_⟩,h3⟩,h4⟩,h5⟩,h6⟩,fun x hx=>h7 x (keepL_mem hx)⟩
 simp only [woS]
 omega
theorem served_none {b:HairBook} (ok:OkH b) (h:b.Horses.length=0):servedB b=true:=by
 rw [served_iff]
 refine ⟨[],planB_iff.2 ⟨by simp [h],by simp⟩,?_⟩
 have:b.Horses=[]:=List.length_eq_zero_iff.1 h
 have hf:=okP_nil (b:=b) (by_:=fun s=>s.Low) (fun x hx=>by have:=(ok.hanks x hx).w;omega)
 unfold okP at hf
 rw [Bool.and_eq_true] at hf
 unfold worksB dyeK
 rw [this]
 rw [show fitK b []=fitP b (fun s=>s.Low) [] from rfl,hf.1]
 rfl
theorem served_all {b:HairBook} (hok:okH b=true):servedB (woS b (2 ^ b.Horses.length - 1))=true:=by
 have ok:=okH_of hok
 have h3:=ok.l3
 have hp:=pow_pos' b.Horses.length
 refine served_none (okH_of (okW hok _)) ?_
 have:=kl h3 (s:=2 ^ b.Horses.length - 1) (by omega)
 rw [(fz0 h3).2.2.1] at this
 unfold woS
 simp only
 omega
structure LackIs (b:HairBook) (t:Nat):Prop where
 lt:t<2 ^ b.Horses.length
 sv:servedB (woS b t)=true
 le:∀ u,u<2 ^ b.Horses.length→servedB (woS b u)=true→rk b.Horses.length t≤rk b.Horses.length u
def LackInv (b:HairBook) (i:Int) (s:List Int×Bool):Prop:=(s=([],false)∧∀ u:Nat,(u:Int)<i→servedB (woS b u)=false) ∨
 ∃ t:Nat,s=(LT b.Horses.length t,true)∧t<2 ^ b.Horses.length∧servedB (woS b t)=true∧∀ u:Nat,(u:Int)<i→servedB (woS b u)=true→rk b.Horses.length t≤rk b.Horses.length u
theorem p29_8 {b:HairBook} (hok:okH b=true) {s:Nat} (hs:s<2 ^ b.Horses.length) {st:List Int×Bool} (hI:LackInv b s st):∃ st',g91_8 b (s:Int) st=some st'∧LackInv b ((s:Int)+1) st':=by
 have ok:=okH_of hok
 have h3:=ok.l3
 have okw:=okH_of (okW hok s)
 obtain ⟨mf,e80,hmf⟩:=p80 okw
 have hmk:HairBook.mk b.Hanks (keepL b.Horses (LT b.Horses.length s)) b.Dark b.Near b.Match=woS b s:=rfl
 rcases hI with ⟨rfl,hI⟩ | ⟨t,rfl,ht,hsv,hle⟩
 ·have he:g91_8 b (s:Int) ([],false)=some (bif servedB (woS b s) then (LT b.Horses.length s,true) else ([],false)):=by
   unfold g91_8
   rw [ks h3 hs]
   simp only [bsm,cond_false,hmk,e80,p84 okw hmf]
   cases servedB (woS b s)<;>rfl
  refine ⟨_,he,?_⟩
  cases hv:servedB (woS b s) with
  | true=>
   refine .inr ⟨s,rfl,hs,hv,fun u hu hsu=>?_⟩
   by_cases e:u=s
   ·subst e;exact Nat.le_refl _
   ·have:=hI u (by omega);rw [hsu] at this;cases this
  | false=>
   refine .inl ⟨rfl,fun u hu=>?_⟩
   by_cases e:u=s
   ·subst e;exact hv
   ·exact hI u (by omega)
 ·have hc:=fC h3 hs ht
  have he:g91_8 b (s:Int) (LT b.Horses.length t,true)=some (bif decide (rk b.Horses.length s<rk b.Horses.length t)&&servedB (woS b s) then (LT b.Horses.length s,true) else (LT b.Horses.length t,true)):=by
   unfold g91_8
   rw [ks h3 hs]
   simp only [bsm,cond_true]
   have key:∀ {X:Option Bool} {F:Bool→Option (List Int×Bool)} {v:Bool},X=some v→X.bind F=F v:=by
    intro X F v h;rw [h];rfl
   refine Eq.trans (key hc) ?_
   cases decide (rk b.Horses.length s<rk b.Horses.length t) with
   | false=>rfl
   | true=>
    simp only [Bool.not_true,cond_false,hmk,e80,bsm,p84 okw hmf,Bool.true_and]
    cases servedB (woS b s)<;>rfl
  refine ⟨_,he,?_⟩
  by_cases h1:rk b.Horses.length s<rk b.Horses.length t
  ·rw [decide_eq_true h1,Bool.true_and]
   cases hv:servedB (woS b s) with
   | true=>
    refine .inr ⟨s,rfl,hs,hv,fun u hu hsu=>?_⟩
    by_cases e:u=s
    ·subst e;exact Nat.le_refl _
    ·have:=hle u (by omega) hsu;omega
   | false=>
    refine .inr ⟨t,rfl,ht,hsv,fun u hu hsu=>?_⟩
    by_cases e:u=s
    ·subst e;rw [hv] at hsu;cases hsu
    ·exact hle u (by omega) hsu
  ·rw [decide_eq_false h1,Bool.false_and]
   refine .inr ⟨t,rfl,ht,hsv,fun u hu hsu=>?_⟩
   by_cases e:u=s
   ·subst e;omega
   ·exact hle u (by omega) hsu
theorem p29 {b:HairBook} (hok:okH b=true):∃ t,LackIs b t∧g91 b=some (LT b.Horses.length t,0):=by
 have ok:=okH_of hok
 have h3:=ok.l3
 have hp:=pow_pos' b.Horses.length
 have hp8:=pow_le' h3
 obtain ⟨st,e,hI⟩:=forS_inv (f:=g91_8 b) (LackInv b) (2 ^ b.Horses.length) 0 ([],false) (.inl ⟨rfl,fun u hu=>by omega⟩) (fun j s h1 h2 hs=>by
  obtain ⟨k,rfl⟩:∃ k:Nat,j=(k:Int):=⟨j.toNat,by omega⟩
  exact p29_8 hok (by omega) hs)
 rcases hI with ⟨rfl,hI⟩ | ⟨t,rfl,ht,hsv,hle⟩
 ·have:=hI (2 ^ b.Horses.length - 1) (by omega)
  rw [served_all hok] at this;cases this
 ·refine ⟨t,⟨ht,hsv,fun u hu h=>hle u (by omega) h⟩,?_⟩
  unfold g91
  rw [p17,hok,bsm]
  simp only [cond_true,ne_eq,not_true_eq_false,decide_false,cond_false]
  rw [must_t (by rw [decide_eq_true_eq];omega),bsm,fS h3,must_t (by rw [decide_eq_true_eq];omega),bsm,show (((2 ^ b.Horses.length:Nat):Int) - 0).toNat=2 ^ b.Horses.length by omega,e,bsm]
  simp only [slcL_all,bsm]
def lexB:List Int→List Int→Bool
 | [],[]=>false
 | [],_::_=>true
 | _::_,[]=>false
 | x::l,y::m=>bif decide (x=y) then lexB l m else decide (x<y)
theorem p45_loop (l m:List Int) (hl:l.length<900):∀ (n i k:Nat),i+n=l.length→n+2≤k→∃ c:Ctl Unit (Ctl Unit Bool),whileC (g54_3 l m) k (i:Int)=some c∧(match c with | .next _=>lexB (l.drop i) (m.drop i)=decide (l.length<m.length) | .brk (.brk v)=>v=lexB (l.drop i) (m.drop i) | .brk (.next _)=>False)
 | 0,i,k,hi,hk=>by
  obtain ⟨k,rfl⟩:∃ j,k=j+1:=⟨k - 1,by omega⟩
  refine ⟨.next (),?_,?_⟩
  ·rw [whileC]
   simp only [g54_3]
   rw [decide_eq_false (show ¬ (i:Int)<(l.length:Int) by omega)]
   rfl
  ·simp only
   rw [List.drop_eq_nil_of_le (show l.length≤i by omega)]
   by_cases h:i<m.length
   ·rw [List.drop_eq_getElem_cons h,lexB,decide_eq_true (by omega)]
   ·rw [List.drop_eq_nil_of_le (by omega),lexB,decide_eq_false (by omega)]
 | n+1,i,k,hi,hk=>by
  obtain ⟨k,rfl⟩:∃ j,k=j+1:=⟨k - 1,by omega⟩
  have h1:i<l.length:=by omega
  rw [whileC]
  simp only [g54_3]
  rw [decide_eq_true (show (i:Int)<(l.length:Int) by omega),cond_true,bsm]
  by_cases h2:i<m.length
  ·rw [decide_eq_true (show (i:Int)<(m.length:Int) by omega),cond_true,ixL_nat,ixL_nat,List.getElem?_eq_getElem h1,List.getElem?_eq_getElem h2,bsm,bsm,List.drop_eq_getElem_cons h1,List.drop_eq_getElem_cons h2]
   by_cases e:l[i]=m[i]
   ·obtain ⟨c,e1,e2⟩:=p45_loop l m hl n (i+1) k (by omega) (by omega)
    refine ⟨c,?_,?_⟩
    ·rw [decide_eq_false (show ¬ l[i]≠m[i] from fun h=>h e),cond_false,bsm,wr_nat (by omega)]
     exact e1
    ·rw [lexB,decide_eq_true e,cond_true]
     exact e2
   ·refine ⟨.brk (.brk (decide (l[i]<m[i]))),?_,?_⟩
    ·rw [decide_eq_true (show l[i]≠m[i] from e),cond_true]
     rfl
    ·simp only
     rw [lexB,decide_eq_false e,cond_false]
  ·refine ⟨.next (),?_,?_⟩
   ·rw [decide_eq_false (show ¬ (i:Int)<(m.length:Int) by omega),cond_false]
    rfl
   ·simp only
    rw [List.drop_eq_nil_of_le (show m.length≤i by omega),List.drop_eq_getElem_cons h1,lexB,decide_eq_false (by omega)]
theorem p45 (l m:List Int) (hl:l.length<900):g54 l m=some (lexB l m):=by
 obtain ⟨c,e1,e2⟩:=p45_loop l m hl l.length 0 1000 (by omega) (by omega)
 rw [show ((0:Nat):Int)=0 from rfl] at e1
 unfold g54
 rw [e1]
 simp only [List.drop_zero] at e2
 match c,e2 with
 | .next _,e2=>
  simp only at e2
  simp only [bindC]
  rw [e2]
  congr 1
  rw [Bool.eq_iff_iff,decide_eq_true_eq,decide_eq_true_eq]
  omega
 | .brk (.brk v),e2=>
  simp only at e2
  rw [e2];rfl
 | .brk (.next _),e2=>exact e2.elim
end Go.Proofs.YtjooihelppcfkaaDoor
namespace Go.Proofs.YtjooihelppcfkaaDoor
open Go Go.Abs Go.Proofs.Tr
def okSt (s:Span):Bool:=rg s.Low 0 s.High&&decide (s.High≤40)&&decide (wr (s.High - s.Low)≤4)
def okNd (m:Int) (l:List Int):Bool:=decide ((l.length:Int)=m)&&l.all fun n=>rg n 0 9
def okHa (b:HarnessBook):Bool:=okH b.Hair&&rg (b.Stock.length:Int) 1 3&&decide ((b.Needs.length:Int)=(b.Hair.Horses.length:Int))&&rg b.Pack 1 12&&rg b.Bad 0 (wr (b.Pack - 1))&&b.Stock.all okSt&&b.Needs.all (okNd (b.Stock.length:Int))
theorem hb68 (n a c:Int):g68 n a c=some (rg n a c):=rfl
theorem hb44 (n a c:Int):g44 n a c=some (rg n a c):=rfl
theorem hb18_16 (i:Int) (x:Span) (s:Bool):g18_16 i x s=some (s&&okSt x):=by
 simp only [g18_16,hb68,bsm,cs,okSt,Bool.cond_false_right,Bool.and_assoc]
theorem hb18_38 (i:Int) (x:Int) (s:Bool):g18_38 i x s=some (s&&rg x 0 9):=by
 simp only [g18_38,hb68,bsm,cs,Bool.cond_false_right]
theorem hb18_29 (b:HarnessBook) (i:Int) (x:List Int) (s:Bool):g18_29 b i x s=some (s&&okNd (b.Stock.length:Int) x):=by
 simp only [g18_29,bsm,cs,eachS_all hb18_38,okNd,Bool.cond_false_right,Bool.and_assoc]
theorem hb18 (b:HarnessBook):g18 b=some (bif okHa b then 0 else 100):=by
 unfold g18
 rw [p17,bsm]
 have e:decide ((bif okH b.Hair then (0:Int) else 60)=0)=okH b.Hair:=by cases okH b.Hair<;>rfl
 simp only [e,hb68,bsm,cs,Bool.cond_false_right,eachS_all hb18_16,eachS_all (hb18_29 b)]
 have:∀ x:Bool,(bif !x then (100:Int) else 0)=bif x then 0 else 100:=by intro x;cases x<;>rfl
 rw [this]
 simp only [okHa,Bool.and_assoc]
structure HaOk (b:HarnessBook):Prop where
 ok:okH b.Hair=true
 s1:1≤b.Stock.length
 s3:b.Stock.length≤3
 nl:b.Needs.length=b.Hair.Horses.length
 n3:b.Needs.length≤3
 pack:1≤b.Pack∧b.Pack≤12
 bad:0≤b.Bad∧b.Bad≤b.Pack - 1
 st:∀ s,s∈b.Stock→0≤s.Low∧s.Low≤s.High∧s.High≤40∧s.High - s.Low≤4
 nd:∀ l,l∈b.Needs→l.length=b.Stock.length∧∀ n,n∈l→0≤n∧n≤9
theorem haOk_of {b:HarnessBook} (h:okHa b=true):HaOk b:=by
 simp only [okHa,Bool.and_eq_true,rg_iff,decide_eq_true_eq,List.all_eq_true] at h
 obtain ⟨⟨⟨⟨⟨⟨h1,h2⟩,h3⟩,h4⟩,h5⟩,h6⟩,h7⟩:=h
 have h8:=(okH_of h1).l3
 rw [wr_in (by omega) (by omega)] at h5
 refine ⟨h1,by omega,by omega,by omega,by omega,h4,h5,fun s hs=>?_,fun l hl=>?_⟩
 ·have:=h6 s hs
  simp only [okSt,Bool.and_eq_true,rg_iff,decide_eq_true_eq] at this
  obtain ⟨⟨a1,a2⟩,a3⟩:=this
  rw [wr_in (by omega) (by omega)] at a3
  omega
 ·have:=h7 l hl
  simp only [okNd,Bool.and_eq_true,rg_iff,decide_eq_true_eq,List.all_eq_true] at this
  exact ⟨by omega,this.2⟩
theorem haOk_to {b:HarnessBook} (h:HaOk b):okHa b=true:=by
 have h8:=h.bad
 have h9:=h.pack
 simp only [okHa,Bool.and_eq_true,rg_iff,decide_eq_true_eq,List.all_eq_true]
 rw [wr_in (by omega) (by omega)]
 refine ⟨⟨⟨⟨⟨⟨h.ok,by have:=h.s1;have:=h.s3;omega⟩,by rw [h.nl]⟩,h.pack⟩,h.bad⟩,fun s hs=>?_⟩,fun l hl=>?_⟩
 ·have:=h.st s hs
  simp only [okSt,Bool.and_eq_true,rg_iff,decide_eq_true_eq]
  rw [wr_in (by omega) (by omega)]
  omega
 ·have:=h.nd l hl
  simp only [okNd,Bool.and_eq_true,rg_iff,decide_eq_true_eq,List.all_eq_true]
  exact ⟨by omega,this.2⟩
def sdSt (s:Span):Bool:=decide (0≤s.Low)&&decide (s.Low≤s.High)&&decide (s.High≤40)
theorem hb35_l1 (b:HarnessBook) (hl:b.Stock.length<900) (s:Bool):whileC (g35_21 b) 1000 (s,0)=some (s&&b.Stock.all sdSt):=by
 have h0:∀ i,g35_21 b (false,i)=some (.brk false):=fun i=>by simp [g35_21,bsm]
 cases s with
 | false=>rw [whileC,h0];rfl
 | true=>
  have:=while_all (f:=g35_21 b) (p:=sdSt) (xs:=b.Stock) hl h0 (by simp [g35_21,bsm]) (fun i x hx=>by
   have hi:i<b.Stock.length:=(List.getElem?_eq_some_iff.1 hx).1
   simp only [g35_21,cond_true,bsm,ixL_nat,hx,g70,sdSt,cs,Bool.cond_false_right]
   have:decide ((i:Int)<(b.Stock.length:Int))=true:=by simp [hi]
   rw [this,wr_nat (by omega)]
   simp only [cond_true]) b.Stock.length 0 (by omega) 1000 (by omega)
  simpa using this
theorem hb35_l3 (l:List Int) (hl:l.length<900) (s:Bool):whileC (g35_43 l) 1000 (s,0)=some (s&&l.all fun n=>rg n 0 9):=by
 have h0:∀ i,g35_43 l (false,i)=some (.brk false):=fun i=>by simp [g35_43,bsm]
 cases s with
 | false=>rw [whileC,h0];rfl
 | true=>
  have:=while_all (f:=g35_43 l) (p:=fun n=>rg n 0 9) (xs:=l) hl h0 (by simp [g35_43,bsm]) (fun i x hx=>by
   have hi:i<l.length:=(List.getElem?_eq_some_iff.1 hx).1
   simp only [g35_43,cond_true,bsm,ixL_nat,hx,hb44,cs,Bool.cond_false_right]
   have:decide ((i:Int)<(l.length:Int))=true:=by simp [hi]
   rw [this,wr_nat (by omega)]
   simp only [cond_true]) l.length 0 (by omega) 1000 (by omega)
  simpa using this
theorem hb35_l2 {b:HarnessBook} (hl:b.Needs.length<900) (hn:∀ l,l∈b.Needs→l.length<900) (s:Bool):whileC (g35_33 b) 1000 (s,0)=some (s&&b.Needs.all (okNd (b.Stock.length:Int))):=by
 have h0:∀ i,g35_33 b (false,i)=some (.brk false):=fun i=>by simp [g35_33,bsm]
 cases s with
 | false=>rw [whileC,h0];rfl
 | true=>
  have:=while_all (f:=g35_33 b) (p:=okNd (b.Stock.length:Int)) (xs:=b.Needs) hl h0 (by simp [g35_33,bsm]) (fun i x hx=>by
   have hi:i<b.Needs.length:=(List.getElem?_eq_some_iff.1 hx).1
   simp only [g35_33,cond_true,bsm,ixL_nat,hx,okNd,cs,Bool.cond_false_right]
   have:decide ((i:Int)<(b.Needs.length:Int))=true:=by simp [hi]
   rw [this,wr_nat (by omega)]
   simp only [cond_true,bsm,hb35_l3 x (hn x (List.mem_of_getElem? hx))]) b.Needs.length 0 (by omega) 1000 (by omega)
  simpa using this
theorem hb35 (b:HarnessBook):g35 b=some (okHa b):=by
 unfold g35
 rw [hb18,bsm]
 cases hok:okHa b with
 | false=>
  simp only [cond_false,show decide ((100:Int)=0)=false from rfl,bsm]
  have e1:whileC (g35_21 b) 1000 (false,0)=some false:=by rw [whileC];simp [g35_21,bsm]
  have e2:whileC (g35_33 b) 1000 (false,0)=some false:=by rw [whileC];simp [g35_33,bsm]
  simp only [e1,e2,bsm]
 | true=>
  have ok:=haOk_of hok
  have h3:=ok.s3
  have h1:=ok.s1
  have hn:=ok.n3
  have hp:=ok.pack
  have hd:=ok.bad
  have q1:b.Stock.all sdSt=true:=by
   rw [List.all_eq_true]
   intro x hx
   have:=ok.st x hx
   simp only [sdSt,Bool.and_eq_true,decide_eq_true_eq]
   omega
  have q2:b.Needs.all (okNd (b.Stock.length:Int))=true:=by
   rw [List.all_eq_true]
   intro x hx
   have:=ok.nd x hx
   simp only [okNd,Bool.and_eq_true,decide_eq_true_eq,List.all_eq_true,rg_iff]
   exact ⟨by omega,this.2⟩
  have hl:=ok.nl
  simp only [cond_true,decide_true,bsm,p17,ok.ok,hb44]
  rw [decide_eq_true (show (b.Hair.Horses.length:Int)≤3 by omega),rg_iff.2 (show 1≤(b.Stock.length:Int)∧(b.Stock.length:Int)≤3 by omega),decide_eq_true (show (b.Needs.length:Int)=(b.Hair.Horses.length:Int) by omega),rg_iff.2 hp,wr_in (by omega) (by omega),rg_iff.2 hd]
  simp only [cond_true,bsm]
  rw [hb35_l1 b (by omega)]
  simp only [bsm]
  rw [hb35_l2 (by omega) (fun l hl=>by have:=(ok.nd l hl).1;omega),q1,q2]
  rfl
theorem q126_iff (x y:Harness_want):q126 x y=true↔x=y:=by
 cases x;cases y
 simp [q126]
def ndOf (b:HarnessBook) (h k:Int):Int:=match b.Needs[h.toNat]? with
 | some l=>(l[k.toNat]?).getD 0
 | none=>0
def NdK (b:HarnessBook) (h0 k0:Int) (m:List (Harness_want×Int)):Prop:=∀ h k,0≤h→mget q126 m ⟨h,k⟩=bif (decide (h<h0)&&decide (0≤k)&&decide (k<b.Stock.length))||(decide (h=h0)&&decide (0≤k)&&decide (k<k0)) then some (ndOf b h k) else none
theorem hb93_13 {b:HarnessBook} {h:Nat} {l:List Int} (hl:b.Needs[h]?=some l) {k:Nat} {n:Int} (hn:l[k]?=some n) {m:List (Harness_want×Int)} (hm:NdK b (h:Int) (k:Int) m):∃ m',g93_13 (h:Int) (k:Int) n m=some m'∧NdK b (h:Int) ((k+1:Nat):Int) m':=by
 have hnone:mget q126 m ⟨(h:Int),(k:Int)⟩=none:=by
  rw [hm _ _ (by omega)]
  have:((decide ((h:Int)<(h:Int))&&decide (0≤(k:Int))&&decide ((k:Int)<b.Stock.length))||(decide ((h:Int)=(h:Int))&&decide (0≤(k:Int))&&decide ((k:Int)<(k:Int))))=false:=by simp
  rw [this];rfl
 have hv:ndOf b (h:Int) (k:Int)=n:=by
  unfold ndOf
  rw [Int.toNat_natCast,hl]
  simp [hn]
 refine ⟨m++[(⟨(h:Int),(k:Int)⟩,n)],?_,fun h' k' h0=>?_⟩
 ·unfold g93_13 mput
  rw [hnone];rfl
 ·rw [mget_append]
  by_cases he:h'=(h:Int)∧k'=(k:Int)
  ·obtain ⟨rfl,rfl⟩:=he
   rw [hnone]
   have hq:q126 ⟨(h:Int),(k:Int)⟩ ⟨(h:Int),(k:Int)⟩=true:=(q126_iff _ _).2 rfl
   have ht:((decide ((h:Int)<(h:Int))&&decide (0≤(k:Int))&&decide ((k:Int)<b.Stock.length))||(decide ((h:Int)=(h:Int))&&decide (0≤(k:Int))&&decide ((k:Int)<((k+1:Nat):Int))))=true:=by
    simp;omega
   rw [ht,hv]
   simp only [hq,cond_true]
  ·have hq:q126 ⟨h',k'⟩ ⟨(h:Int),(k:Int)⟩=false:=by
    cases hc:q126 ⟨h',k'⟩ ⟨(h:Int),(k:Int)⟩ with
    | false=>rfl
    | true=>
     have:=(q126_iff _ _).1 hc
     injection this with e1 e2
     exact absurd ⟨e1,e2⟩ he
   rw [hm _ _ h0,hq]
   have:(decide (h'=(h:Int))&&decide (0≤k')&&decide (k'<(k:Int)))=(decide (h'=(h:Int))&&decide (0≤k')&&decide (k'<((k+1:Nat):Int))):=by
    rw [Bool.eq_iff_iff]
    simp only [Bool.and_eq_true,decide_eq_true_eq]
    constructor
    ·rintro ⟨⟨a1,a2⟩,a3⟩;exact ⟨⟨a1,a2⟩,by omega⟩
    ·rintro ⟨⟨a1,a2⟩,a3⟩
     refine ⟨⟨a1,a2⟩,?_⟩
     by_cases e:k'=(k:Int)
     ·exact absurd ⟨a1,e⟩ he
     ·omega
   rw [this]
   cases (decide (h'<(h:Int))&&decide (0≤k')&&decide (k'<b.Stock.length))||(decide (h'=(h:Int))&&decide (0≤k')&&decide (k'<((k+1:Nat):Int)))<;>rfl
def NdOk (b:HarnessBook) (m:List (Harness_want×Int)):Prop:=∀ (h k:Nat),h<b.Needs.length→k<b.Stock.length→mget q126 m ⟨(h:Int),(k:Int)⟩=some (ndOf b h k)
def baldL (b:HarnessBook):List Int:=((g91 b.Hair).map (·.1)).getD []
theorem bald_eq {b:HarnessBook} (ok:HaOk b):g91 b.Hair=some (baldL b,0):=by
 obtain ⟨t,_,e⟩:=p29 ok.ok
 unfold baldL
 rw [e];rfl
theorem hb93 {b:HarnessBook} (ok:HaOk b):∃ m,g93 b=some (b,baldL b,m)∧NdOk b m:=by
 have h0:mput q126 ([]:List (Harness_want×Int)) (Harness_want.mk (-1) (-1)) 0=some [(Harness_want.mk (-1) (-1),0)]:=rfl
 obtain ⟨m,em,hm⟩:=eachS_inv (f:=g93_7) (fun h m=>NdK b (h:Int) 0 m) b.Needs 0 [(Harness_want.mk (-1) (-1),0)] (fun h k hh=>by
  have:((decide (h<((0:Nat):Int))&&decide (0≤k)&&decide (k<b.Stock.length))||(decide (h=((0:Nat):Int))&&decide (0≤k)&&decide (k<0)))=false:=by
   rw [Bool.eq_false_iff]
   intro hc
   simp only [Bool.or_eq_true,Bool.and_eq_true,decide_eq_true_eq] at hc
   omega
  rw [this]
  have hq:q126 ⟨h,k⟩ ⟨-1,-1⟩=false:=by
   cases hc:q126 ⟨h,k⟩ ⟨-1,-1⟩ with
   | false=>rfl
   | true=>
    have:=(q126_iff _ _).1 hc
    injection this with e1 e2
    omega
  simp only [mget,mfd,hq,cond_false];rfl) (fun h l m hk hx hm=>by
  rw [Nat.sub_zero] at hx
  obtain ⟨m',e',h'⟩:=eachS_inv (f:=g93_13 (h:Int)) (fun k m=>NdK b (h:Int) (k:Int) m) l 0 m hm (fun k n s k1 k2 hs=>hb93_13 hx (by rwa [Nat.sub_zero] at k2) hs)
  refine ⟨m',by unfold g93_7;rw [show (0:Int)=((0:Nat):Int) from rfl,e',bsm],fun h2 k2 hh=>?_⟩
  rw [h' _ _ hh]
  congr 1
  have:=(ok.nd l (List.mem_of_getElem? hx)).1
  rw [Bool.eq_iff_iff]
  simp only [Bool.or_eq_true,Bool.and_eq_true,decide_eq_true_eq]
  omega)
 refine ⟨m,?_,fun h k h1 h2=>?_⟩
 ·unfold g93
  rw [h0,bsm,bald_eq ok,bsm]
  simp only
  rw [show ((0:Nat):Int)=0 from rfl] at em
  rw [em,bsm]
 ·rw [hm _ _ (by omega)]
  have:((decide ((h:Int)<((0+b.Needs.length:Nat):Int))&&decide (0≤(k:Int))&&decide ((k:Int)<b.Stock.length))||(decide ((h:Int)=((0+b.Needs.length:Nat):Int))&&decide (0≤(k:Int))&&decide ((k:Int)<0)))=true:=by
   simp only [Bool.or_eq_true,Bool.and_eq_true,decide_eq_true_eq]
   omega
  rw [this];rfl
theorem hb59 {b:HarnessBook} (ok:HaOk b):∃ m,g59 b true=some (.brk (b,baldL b,m,0))∧NdOk b m:=by
 obtain ⟨m,e,h⟩:=hb93 ok
 refine ⟨m,?_,h⟩
 unfold g59
 rw [hb18,haOk_to ok,bsm,e]
 rfl
end Go.Proofs.YtjooihelppcfkaaDoor
namespace Go.Proofs.YtjooihelppcfkaaDoor
open Go Go.Abs Go.Proofs.Tr
theorem hb108_loop (v:Int):∀ (l:List Int) (i:Int),0≤i→∃ c,eachC (g108_3 v) l i ()=some c∧((v∈l∧∃ j,c=.brk j∧0≤j)∨(¬ v∈l∧c=.next ()))
 | [],i,h=>⟨_,rfl,.inr ⟨by simp,rfl⟩⟩
 | x::l,i,h=>by
  rw [eachC]
  by_cases e:v=x
  ·refine ⟨.brk i,?_,.inl ⟨by simp [e],i,rfl,h⟩⟩
   simp [g108_3,e,bsm]
  ·obtain ⟨c,h1,h2⟩:=hb108_loop v l (i+1) (by omega)
   refine ⟨c,?_,?_⟩
   ·simpa [g108_3,e,bsm] using h1
   ·have:v∈x::l↔v∈l:=by simp [e]
    rw [this];exact h2
theorem hb89 (l:List Int) (v:Int):g89 l v=some (decide (v∈l)):=by
 obtain ⟨c,h1,h2⟩:=hb108_loop v l 0 (by omega)
 unfold g89 g108
 rw [h1]
 rcases h2 with ⟨h2,j,rfl,h3⟩ | ⟨h2,rfl⟩
 ·show some (decide (0≤j))=_
  rw [decide_eq_true h3,decide_eq_true h2]
 ·show some (decide (0≤(-1:Int)))=_
  rw [decide_eq_false h2];rfl
theorem hb102 (b:HarnessBook) (bald:List Int) (m:List (Harness_want×Int)) (h:Int):g102 b bald m h=some (!decide (h∈bald)):=by
 unfold g102
 rw [hb89];rfl
theorem aset_g (w:Nat→Int) (j k:Nat) (x:Int):aset w j x k=if k=j then x else w k:=by
 unfold aset
 by_cases h:k=j
 ·subst h;simp
 ·have:Nat.beq k j=false:=by
   cases hb:Nat.beq k j with
   | true=>exact absurd (Nat.eq_of_beq_eq_true hb) h
   | false=>rfl
  rw [this,if_neg h];rfl
theorem hb103 {b:HarnessBook} (ok:HaOk b) {m:List (Harness_want×Int)} (hm:NdOk b m) (bald:List Int) {h:Nat} (hh:h<b.Needs.length) :
  ∃ w,g103 b bald m (h:Int)=some w∧∀ k:Nat,w k=if k<b.Stock.length then ndOf b h k else 0:=by
 have hs:=ok.s3
 obtain ⟨w,e,hw⟩:=eachS_inv (f:=g103_5 m (h:Int)) (fun n w=>∀ k:Nat,w k=if k<n then ndOf b h k else 0) b.Stock 0 (arrL [0,0,0]) (fun k=>by
  rw [if_neg (by omega)]
  unfold arrL
  match k with
  | 0=>rfl
  | 1=>rfl
  | 2=>rfl
  | k+3=>rfl) (fun j s w hj hx hw=>by
  rw [Nat.sub_zero] at hx
  have hlt:j<b.Stock.length:=(List.getElem?_eq_some_iff.1 hx).1
  refine ⟨aset w j (ndOf b h j),?_,fun k=>?_⟩
  ·unfold g103_5
   have:((h:Int)==-1)=false:=by
    rw [beq_eq_false_iff_ne];omega
   rw [this,ixN_nat (by omega),hm h j hh hlt]
   rfl
  ·rw [aset_g,hw]
   by_cases e:k=j
   ·subst e;rw [if_pos rfl,if_pos (by omega)]
   ·rw [if_neg e]
    by_cases e2:k<j
    ·rw [if_pos e2,if_pos (by omega)]
    ·rw [if_neg e2,if_neg (by omega)])
 refine ⟨w,?_,fun k=>?_⟩
 ·unfold g103 g101
  rw [bsm]
  rw [show ((0:Nat):Int)=0 from rfl] at e
  rw [e,bsm]
 ·rw [hw,Nat.zero_add]
def wlS (bald:List Int) (kind:Nat):List (List Int)→Nat→List Int
 | [],_=>[]
 | l::ls,h=>(bif decide ((h:Int)∈bald) then [] else [(l[kind]?).getD 0])++wlS bald kind ls (h+1)
def sumL:List Int→Int
 | []=>0
 | x::xs=>x+sumL xs
def want (b:HarnessBook) (kind:Nat):Int:=sumL (wlS (baldL b) kind b.Needs 0)
def lowOf (b:HarnessBook) (k:Nat):Int:=match b.Stock[k]? with | some s=>s.Low | none=>0
def highOf (b:HarnessBook) (k:Nat):Int:=match b.Stock[k]? with | some s=>s.High | none=>0
theorem eachC_nx {α R:Type} {f:Int→α→Unit→Option (Ctl Unit R)}:∀ (xs:List α) (i:Nat),(∀ (j:Nat) x,i≤j→xs[j - i]?=some x→f (j:Int) x ()=some (.next ()))→eachC f xs (i:Int) ()=some (.next ())
 | [],i,h=>rfl
 | x::xs,i,h=>by
  rw [eachC,h i x (Nat.le_refl _) (by simp),bsm,show (i:Int)+1=((i+1:Nat):Int) by omega]
  exact eachC_nx xs (i+1) (fun j y hj hy=>h j y (by omega) (by
   have:j - i=(j - (i+1))+1:=by omega
   rw [this,List.getElem?_cons_succ];exact hy))
theorem dressed_bind:((g24).bind fun t2=>some t2)=some true:=by rw [dressed_ok];rfl
end Go.Proofs.YtjooihelppcfkaaDoor
namespace Go.Proofs.YtjooihelppcfkaaDoor
open Go Go.Abs Go.Proofs.Tr
def hasL (b:HarnessBook):List Bool:=(List.range b.Needs.length).map fun (i:Nat)=>!decide ((i:Int)∈baldL b)
theorem hasL_get (b:HarnessBook) {i:Nat} (h:i<b.Needs.length):(hasL b)[i]?=some (!decide ((i:Int)∈baldL b)):=by
 unfold hasL
 rw [List.getElem?_map,List.getElem?_range h];rfl
theorem hb36 {b:HarnessBook} (ok:HaOk b):g36 b=some (hasL b,true):=by
 have h3:=ok.n3
 obtain ⟨l,e,hl⟩:=eachS_inv (f:=g36_4 (baldL b)) (fun n l=>l=(List.range n).map fun (i:Nat)=>!decide ((i:Int)∈baldL b)) b.Needs 0 [] rfl (fun j x l hj hx hl=>by
  rw [Nat.sub_zero] at hx
  have hlt:j<b.Needs.length:=(List.getElem?_eq_some_iff.1 hx).1
  obtain ⟨r,er,hr⟩:=p96 (baldL b) (j:Int)
  refine ⟨l++[!decide ((j:Int)∈baldL b)],?_,by rw [hl,List.range_succ,List.map_append];rfl⟩
  unfold g36_4
  have:decide (r<0)=!decide ((j:Int)∈baldL b):=by
   rw [← decide_not,decide_eq_decide,← hr];omega
  rw [er,bsm,this,appL_ok (by rw [List.length_append,hl];simp;omega)]
  rfl)
 unfold g36
 rw [bald_eq ok,bsm]
 simp only
 rw [show ((0:Nat):Int)=0 from rfl] at e
 rw [e,bsm,hl,Nat.zero_add]
 rfl
end Go.Proofs.YtjooihelppcfkaaDoor
namespace Go.Proofs.YtjooihelppcfkaaDoor
open Go Go.Abs Go.Proofs.Tr
def arr (l:List Int):Nat→Int:=fun k=>(l[k]?).getD 0
theorem arr_nil:arrL [0,0,0]=arr []:=by
 funext k
 unfold arrL arr
 match k with
 | 0=>rfl
 | 1=>rfl
 | 2=>rfl
 | k+3=>rfl
theorem aset_arr (pre:List Int) (y:Int):aset (arr pre) pre.length y=arr (pre++[y]):=by
 funext k
 rw [aset_g]
 unfold arr
 by_cases h:k=pre.length
 ·subst h;rw [if_pos rfl,List.getElem?_append_right (Nat.le_refl _),Nat.sub_self];rfl
 ·rw [if_neg h]
  by_cases h2:k<pre.length
  ·rw [List.getElem?_append_left h2]
  ·rw [List.getElem?_eq_none (by omega),List.getElem?_eq_none (by simp;omega)]
theorem aset_arr2 (pre:List Int) (x y:Int):aset (arr (pre++[x])) pre.length y=arr (pre++[y]):=by
 funext k
 rw [← aset_arr,← aset_arr,aset_g,aset_g,aset_g]
 by_cases h:k=pre.length
 ·rw [if_pos h,if_pos h]
 ·rw [if_neg h,if_neg h,if_neg h]
def truL:List Span→List (List Int)
 | []=>[[]]
 | s::ss=>(List.range' 0 (s.High - s.Low+1).toNat).flatMap fun (n:Nat)=>(truL ss).map ((s.Low+(n:Int))::·)
theorem foldl_flatMap {α β S:Type} (f:S→β→S) (g:α→List β):∀ (l:List α) (s:S),(l.flatMap g).foldl f s=l.foldl (fun s a=>(g a).foldl f s) s
 | [],s=>rfl
 | a::l,s=>by rw [List.flatMap_cons,List.foldl_append,List.foldl_cons,foldl_flatMap f g l]
theorem hb100_for {S V:Type} (emb:V→S) (step:V→List Int→V) {rec_:(Nat→Int)→Int→HarnessBook→(List Int)→(List (Harness_want×Int))→S→Option (Bool×S)} {b:HarnessBook} {bald:List Int} {m:List (Harness_want×Int)} {s0:Span} {pre:List Int} (hp:pre.length<3) (hs:0≤s0.Low∧s0.Low≤s0.High∧s0.High≤40) (M:Int→List (List Int))
  (IH:∀ (y:Int) v,s0.Low≤y→y≤s0.High→rec_ (arr (pre++[y])) ((pre.length:Int)+1) b bald m (emb v)=some (true,emb ((M y).foldl step v))) :
  ∀ (n i:Nat) (v:V) (p:Nat→Int),(∀ y,aset p pre.length y=arr (pre++[y]))→i+n=(s0.High - s0.Low+1).toNat →
   ∃ p',forC (g100_10 rec_ (pre.length:Int) b bald m s0) n (i:Int) (emb v,p)=some (.next (emb ((List.range' i n).foldl (fun v (j:Nat)=>(M (s0.Low+(j:Int))).foldl step v) v),p'))
 | 0,i,v,p,hq,hn=>⟨p,rfl⟩
 | n+1,i,v,p,hq,hn=>by
  have e:(i:Int)+1=((i+1:Nat):Int):=by omega
  have hb:g100_10 rec_ (pre.length:Int) b bald m s0 (i:Int) (emb v,p)=some (.next (emb ((M (s0.Low+(i:Int))).foldl step v),arr (pre++[s0.Low+(i:Int)]))):=by
   unfold g100_10
   simp only
   rw [ixN_nat hp,bsm,wr_in (n:=s0.Low+(i:Int)) (by omega) (by omega),hq,wr_in (n:=(pre.length:Int)+1) (by omega) (by omega),IH _ _ (by omega) (by omega),bsm]
   rfl
  obtain ⟨p',h'⟩:=hb100_for emb step hp hs M IH n (i+1) ((M (s0.Low+(i:Int))).foldl step v) (arr (pre++[s0.Low+(i:Int)])) (fun y=>aset_arr2 pre _ y) (by omega)
  refine ⟨p',?_⟩
  rw [forC,hb,bsm]
  simp only
  rw [e,h',List.range'_succ,List.foldl_cons]
theorem hb100 {S V:Type} (c:(Nat→Int)→S→Option (S×Bool)) (emb:V→S) (step:V→List Int→V) {b:HarnessBook} (ok:HaOk b) (bald:List Int) (m:List (Harness_want×Int)):∀ (ss:List Span) (pre:List Int) (n:Nat) (v:V),pre.length+ss.length=b.Stock.length→(∀ (j:Nat) s,ss[j]?=some s→b.Stock[pre.length+j]?=some s)→ss.length+1≤n →
  (∀ t,t∈(truL ss).map (pre++·)→∀ v,c (arr t) (emb v)=some (emb (step v t),true))→g100 c n (arr pre) (pre.length:Int) b bald m (emb v)=some (true,emb (((truL ss).map (pre++·)).foldl step v))
 | ss,pre,0,v,hl,hs,hn,hc=>by omega
 | [],pre,n+1,v,hl,hs,hn,hc=>by
  rw [g100]
  rw [decide_eq_true (by simp only [List.length_nil] at hl;omega),cond_true,hc pre (by simp [truL]),bsm]
  simp [truL]
 | s0::ss,pre,n+1,v,hl,hs,hn,hc=>by
  rw [List.length_cons] at hl hn
  have h3:=ok.s3
  have hx:b.Stock[pre.length]?=some s0:=hs 0 s0 rfl
  have hb:=ok.st s0 (List.mem_of_getElem? hx)
  have hmem:∀ y,s0.Low≤y→y≤s0.High→∀ t,t∈(truL ss).map ((pre++[y])++·)→t∈(truL (s0::ss)).map (pre++·):=fun y h1 h2 t ht=>by
   obtain ⟨u,hu,rfl⟩:=List.mem_map.1 ht
   refine List.mem_map.2 ⟨y::u,?_,by simp⟩
   unfold truL
   refine List.mem_flatMap.2 ⟨(y - s0.Low).toNat,?_,?_⟩
   ·rw [List.mem_range'_1];omega
   ·rw [show s0.Low+((y - s0.Low).toNat:Int)=y by omega]
    exact List.mem_map.2 ⟨u,hu,rfl⟩
  have IH:=fun (y:Int) (v:V) (h1:s0.Low≤y) (h2:y≤s0.High)=>hb100 c emb step ok bald m ss (pre++[y]) n v (by simp;omega) (fun j s hj=>by
   have:=hs (j+1) s hj
   rw [List.length_append,List.length_singleton]
   rwa [show pre.length+1+j=pre.length+(j+1) by omega]) (by omega) (fun t ht=>hc t (hmem y h1 h2 t ht))
  obtain ⟨p',hf⟩:=hb100_for emb step (rec_:=g100 c n) (b:=b) (bald:=bald) (m:=m) (s0:=s0) (pre:=pre) (by omega) ⟨hb.1,hb.2.1,hb.2.2.1⟩ (fun y=>(truL ss).map ((pre++[y])++·)) (fun y v h1 h2=>by
   have:=IH y v h1 h2
   rw [List.length_append,List.length_singleton] at this
   rw [show ((pre.length:Int)+1)=((pre.length+1:Nat):Int) by omega]
   exact this) (s0.High - s0.Low+1).toNat 0 v (arr pre) (fun y=>aset_arr pre y) (by omega)
  rw [g100]
  rw [decide_eq_false (by omega),cond_false,ixL_nat,hx,bsm,wr_in (n:=s0.High - s0.Low) (by omega) (by omega),wr_in (n:=s0.High - s0.Low+1) (by omega) (by omega),Int.sub_zero]
  rw [show ((0:Nat):Int)=0 from rfl] at hf
  rw [hf]
  show some (true,_)=_
  congr 3
  rw [truL,List.map_flatMap,foldl_flatMap]
  congr 1
  funext v j
  rw [List.map_map]
  congr 2
  funext u
  simp
theorem hb99 {S V:Type} (c:(Nat→Int)→S→Option (S×Bool)) (emb:V→S) (step:V→List Int→V) {b:HarnessBook} (ok:HaOk b) (bald:List Int) (m:List (Harness_want×Int)) (v:V) (hc:∀ t,t∈truL b.Stock→∀ v,c (arr t) (emb v)=some (emb (step v t),true)):g99 c b bald m (emb v)=some (emb ((truL b.Stock).foldl step v)):=by
 have h3:=ok.s3
 have e:(truL b.Stock).map (([]:List Int)++·)=truL b.Stock:=by simp
 have:=hb100 c emb step ok bald m b.Stock [] 1000 v (by simp) (fun j s hj=>by simpa using hj) (by omega) (fun t ht=>by rw [e] at ht;exact hc t ht)
 rw [e] at this
 unfold g99 g101
 rw [bsm,arr_nil]
 rw [show (([]:List Int).length:Int)=0 from rfl] at this
 rw [this,bsm]
theorem truL_len:∀ (ss:List Span),(∀ s,s∈ss→s.Low≤s.High∧s.High - s.Low≤4)→1≤(truL ss).length∧(truL ss).length≤5 ^ ss.length
 | [],h=>⟨Nat.le_refl _,Nat.le_refl _⟩
 | s::ss,h=>by
  obtain ⟨h1,h2⟩:=truL_len ss (fun x hx=>h x (by simp [hx]))
  have hs:=h s (by simp)
  have e:(truL (s::ss)).length=(s.High - s.Low+1).toNat*(truL ss).length:=by
   rw [truL,List.length_flatMap]
   simp only [List.length_map]
   rw [List.map_const',List.sum_replicate_nat,List.length_range']
  rw [e,List.length_cons,Nat.pow_succ,Nat.mul_comm (5 ^ ss.length)]
  obtain ⟨n,hn⟩:∃ n,(s.High - s.Low+1).toNat=n+1:=⟨(s.High - s.Low).toNat,by omega⟩
  rw [hn]
  refine ⟨?_,Nat.mul_le_mul (by omega) h2⟩
  have:=Nat.le_mul_of_pos_left (truL ss).length (show 0<n+1 by omega)
  omega
theorem truL_mem:∀ (ss:List Span) (t:List Int),t∈truL ss→t.length=ss.length∧∀ (k:Nat) s,ss[k]?=some s→∃ x,t[k]?=some x∧s.Low≤x∧x≤s.High
 | [],t,ht=>by
  simp only [truL,List.mem_singleton] at ht
  subst ht
  exact ⟨rfl,fun k s h=>by simp at h⟩
 | s0::ss,t,ht=>by
  unfold truL at ht
  obtain ⟨n,hn,ht⟩:=List.mem_flatMap.1 ht
  obtain ⟨u,hu,rfl⟩:=List.mem_map.1 ht
  obtain ⟨h1,h2⟩:=truL_mem ss u hu
  rw [List.mem_range'_1] at hn
  refine ⟨by simp [h1],fun k s hk=>?_⟩
  cases k with
  | zero=>
   simp at hk;subst hk
   exact ⟨s0.Low+(n:Int),rfl,by omega,by omega⟩
  | succ k=>simpa using h2 k s (by simpa using hk)
end Go.Proofs.YtjooihelppcfkaaDoor
namespace Go.Proofs.YtjooihelppcfkaaDoor
open Go Go.Abs Go.Proofs.Tr
def rowOf (b:HarnessBook) (h:Nat):List Int:=(b.Needs[h]?).getD []
def leAll (n:Nat) (row left:List Int):Bool:=(List.range' 0 n).all fun (k:Nat)=>decide (arr row k≤arr left k)
def midA (n j:Nat) (left row:List Int):List Int:=(List.range n).map fun (k:Nat)=>bif decide (k<j) then arr left k - arr row k else arr left k
def subA (n:Nat) (left row:List Int):List Int:=midA n n left row
def canS (b:HarnessBook) (left:List Int) (h:Nat):Bool:=!decide ((h:Int)∈baldL b)&&leAll b.Stock.length (rowOf b h) left
def dayStep (b:HarnessBook) (s:Int×List Int) (h:Nat):Int×List Int:=bif canS b s.2 h then (bOr s.1 (shl64 1 (h:Int)),subA b.Stock.length s.2 (rowOf b h)) else s
def dayS (b:HarnessBook) (order:List Nat) (t:List Int):Int:=(order.foldl (dayStep b) (0,t)).1
structure LeftOk (b:HarnessBook) (l:List Int):Prop where
 len:l.length=b.Stock.length
 bd:∀ k:Nat,0≤arr l k∧arr l k≤1000
theorem midA_len (n j:Nat) (left row:List Int):(midA n j left row).length=n:=by simp [midA]
theorem midA_get {n j k:Nat} (left row:List Int) (h:k<n):(midA n j left row)[k]?=some (bif decide (k<j) then arr left k - arr row k else arr left k):=by
 unfold midA
 rw [List.getElem?_map,List.getElem?_range h];rfl
theorem arr_mid {n j k:Nat} (left row:List Int) (h:k<n):arr (midA n j left row) k=bif decide (k<j) then arr left k - arr row k else arr left k:=by
 show ((midA n j left row)[k]?).getD 0=_
 rw [midA_get left row h];rfl
theorem arr_out {l:List Int} {k:Nat} (h:l.length≤k):arr l k=0:=by
 unfold arr
 rw [List.getElem?_eq_none h];rfl
theorem arr_in {l:List Int} {k:Nat} (h:k<l.length):l[k]?=some (arr l k):=by
 unfold arr
 rw [List.getElem?_eq_getElem h];rfl
theorem leAll_iff {n:Nat} {row left:List Int}:leAll n row left=true↔∀ k,k<n→arr row k≤arr left k:=by
 unfold leAll
 rw [List.all_eq_true]
 constructor
 ·intro h k hk
  have:=h k (by rw [List.mem_range'_1];omega)
  exact of_decide_eq_true this
 ·intro h k hk
  rw [List.mem_range'_1] at hk
  exact decide_eq_true (h k (by omega))
theorem row_bd {b:HarnessBook} (ok:HaOk b) {h:Nat} (hh:h<b.Needs.length):(rowOf b h).length=b.Stock.length∧∀ k,0≤arr (rowOf b h) k∧arr (rowOf b h) k≤9:=by
 have hx:b.Needs[h]?=some b.Needs[h]:=List.getElem?_eq_getElem hh
 have:=ok.nd _ (List.mem_of_getElem? hx)
 unfold rowOf
 rw [hx]
 refine ⟨this.1,fun k=>?_⟩
 show 0≤arr b.Needs[h] k∧arr b.Needs[h] k≤9
 by_cases hk:k<b.Needs[h].length
 ·have h2:=arr_in hk
  exact this.2 _ (List.mem_of_getElem? h2)
 ·rw [arr_out (by omega)];decide
theorem dayStep_ok {b:HarnessBook} (ok:HaOk b) {h:Nat} (hh:h<b.Needs.length) {s:Int×List Int} (hs:LeftOk b s.2):LeftOk b (dayStep b s h).2:=by
 unfold dayStep
 cases hc:canS b s.2 h with
 | false=>exact hs
 | true=>
  unfold canS at hc
  rw [Bool.and_eq_true] at hc
  have h1:=leAll_iff.1 hc.2
  have h2:=(row_bd ok hh).2
  refine ⟨midA_len _ _ _ _,fun k=>?_⟩
  show 0≤arr (subA b.Stock.length s.2 (rowOf b h)) k∧arr (subA b.Stock.length s.2 (rowOf b h)) k≤1000
  unfold subA
  by_cases hk:k<b.Stock.length
  ·rw [arr_mid _ _ hk,decide_eq_true hk,cond_true]
   have:=h1 k hk
   have:=h2 k
   have:=hs.bd k
   omega
  ·rw [arr_out (by rw [midA_len];omega)];decide
theorem tru_left {b:HarnessBook} (ok:HaOk b) {t:List Int} (ht:t∈truL b.Stock):LeftOk b t:=by
 obtain ⟨h1,h2⟩:=truL_mem _ _ ht
 refine ⟨h1,fun k=>?_⟩
 by_cases hk:k<b.Stock.length
 ·have hs:b.Stock[k]?=some b.Stock[k]:=List.getElem?_eq_getElem hk
  obtain ⟨x,hx,a1,a2⟩:=h2 k _ hs
  have:=ok.st _ (List.mem_of_getElem? hs)
  unfold arr
  rw [hx]
  show 0≤x∧x≤1000
  omega
 ·rw [arr_out (by omega)];decide
theorem eachC_idx {α R:Type} {f:Int→α→Unit→Option (Ctl Unit R)} (p:Nat→Bool) (r:R):∀ (xs:List α) (i:Nat),(∀ (j:Nat) x,i≤j→j<i+xs.length→f (j:Int) x ()=some (bif p j then .next () else .brk r))→eachC f xs (i:Int) ()=some (bif (List.range' i xs.length).all p then .next () else .brk r)
 | [],i,h=>rfl
 | x::xs,i,h=>by
  rw [eachC,h i x (Nat.le_refl _) (by simp),bsm,List.length_cons,List.range'_succ,List.all_cons]
  cases hp:p i with
  | false=>rfl
  | true=>
   simp only [cond_true,Bool.true_and]
   rw [show (i:Int)+1=((i+1:Nat):Int) by omega]
   exact eachC_idx p r xs (i+1) (fun j y hj hl=>h j y (by omega) (by rw [List.length_cons];omega))
theorem hb73_4 {b:HarnessBook} (ok:HaOk b) {m:List (Harness_want×Int)} (hm:NdOk b m) {h:Nat} (hh:h<b.Needs.length) {set_:Int} {left:List Int} (hl:LeftOk b left) (i:Int) :
  g73_4 b (baldL b) m i (h:Int) (set_,arr left)=some ((dayStep b (set_,left) h).1,arr (dayStep b (set_,left) h).2):=by
 have h3:=ok.s3
 have hrow:=row_bd ok hh
 unfold g73_4 dayStep canS
 simp only
 rw [hb102,bsm]
 cases hc:decide ((h:Int)∈baldL b) with
 | true=>rfl
 | false=>
  obtain ⟨w,ew,hw⟩:=hb103 ok hm (baldL b) hh
  have hwr:∀ k:Nat,w k=arr (rowOf b h) k:=fun k=>by
   rw [hw]
   have hx:b.Needs[h]?=some b.Needs[h]:=List.getElem?_eq_getElem hh
   by_cases hk:k<b.Stock.length
   ·rw [if_pos hk]
    unfold ndOf rowOf arr
    rw [Int.toNat_natCast,hx,Int.toNat_natCast]
    rfl
   ·rw [if_neg hk,arr_out (by omega)]
  have hwe:w=arr (rowOf b h):=funext hwr
  subst hwe
  simp only [Bool.not_false,Bool.not_true,cond_false,Bool.true_and]
  rw [ew,bsm]
  have hE:=eachC_idx (f:=g73_17 set_ (arr left) (arr (rowOf b h))) (fun k=>decide (arr (rowOf b h) k≤arr left k)) (set_,arr left) b.Stock 0 (fun j x hj hlt=>by
   have hj3:j<3:=by omega
   unfold g73_17 g101
   rw [bsm]
   have hn:=hrow.2 j
   have hb:=hl.bd j
   cases hz:(true != (((arr (rowOf b h) 0)==(arrL [0,0,0] 0))&&(((arr (rowOf b h) 1)==(arrL [0,0,0] 1))&&(((arr (rowOf b h) 2)==(arrL [0,0,0] 2))&&true)))) with
   | true=>
    simp only [cond_true]
    rw [ixN_nat hj3,bsm,bsm]
    by_cases hlt:arr left j<arr (rowOf b h) j
    ·rw [decide_eq_true hlt,decide_eq_false (by omega)];rfl
    ·rw [decide_eq_false hlt,decide_eq_true (by omega)];rfl
   | false=>
    simp only [cond_false]
    have h0:arr (rowOf b h) j=0:=by
     simp only [bne_eq_false_iff_eq,Bool.true_eq,Bool.and_eq_true,beq_iff_eq] at hz
     obtain ⟨z0,z1,z2,_⟩:=hz
     match j,hj3 with
     | 0,_=>exact z0
     | 1,_=>exact z1
     | 2,_=>exact z2
    rw [h0,decide_eq_true hb.1];rfl)
  rw [show ((0:Nat):Int)=0 from rfl] at hE
  rw [hE]
  show ((bindC (some (bif leAll b.Stock.length (rowOf b h) left then _ else _)) _).bind _)=_
  cases hle:leAll b.Stock.length (rowOf b h) left with
  | false=>rfl
  | true=>
   have hs:=leAll_iff.1 hle
   simp only [cond_true,bindC]
   obtain ⟨p5,e5,h5⟩:=eachS_inv (f:=g73_31 (arr (rowOf b h))) (fun n p=>∀ k:Nat,p k=if k<n then arr left k - arr (rowOf b h) k else arr left k) b.Stock 0 (arr left) (fun k=>by rw [if_neg (by omega)]) (fun j x p hj hx hp=>by
    rw [Nat.sub_zero] at hx
    have hlt:j<b.Stock.length:=(List.getElem?_eq_some_iff.1 hx).1
    have hb:=hl.bd j
    have hn:=hrow.2 j
    refine ⟨aset p j (arr left j - arr (rowOf b h) j),?_,fun k=>?_⟩
    ·unfold g73_31
     rw [ixN_nat (by omega),bsm,bsm,bsm,hp j,if_neg (by omega),wr_in (by omega) (by omega)]
    ·rw [aset_g,hp]
     by_cases e:k=j
     ·subst e;rw [if_pos rfl,if_pos (by omega)]
     ·rw [if_neg e]
      by_cases e2:k<j
      ·rw [if_pos e2,if_pos (by omega)]
      ·rw [if_neg e2,if_neg (by omega)])
   have hp5:p5=arr (subA b.Stock.length left (rowOf b h)):=by
    funext k
    rw [h5,Nat.zero_add]
    unfold subA
    by_cases hk:k<b.Stock.length
    ·rw [if_pos hk,arr_mid _ _ hk,decide_eq_true hk];rfl
    ·rw [if_neg hk,arr_out (l:=left) (by rw [hl.len];omega),arr_out (by rw [midA_len];omega)]
   rw [show ((0:Nat):Int)=0 from rfl] at e5
   rw [e5,bsm,must_t (by simp),bsm,bsm,hp5]
theorem hb73 {b:HarnessBook} (ok:HaOk b) {m:List (Harness_want×Int)} (hm:NdOk b m) {order:List Nat} (ho:∀ h,h∈order→h<b.Needs.length) {t:List Int} (ht:LeftOk b t) :
  g73 b (baldL b) m (arr t) (order.map fun (h:Nat)=>(h:Int))=some (dayS b order t):=by
 have key:∀ (os:List Nat) (i:Int) (s:Int×List Int),(∀ h,h∈os→h<b.Needs.length)→LeftOk b s.2→eachS (g73_4 b (baldL b) m) (os.map fun (h:Nat)=>(h:Int)) i (s.1,arr s.2)=some ((os.foldl (dayStep b) s).1,arr (os.foldl (dayStep b) s).2):=by
  intro os
  induction os with
  | nil=>intro i s h1 h2;rfl
  | cons h os ih=>
   intro i s h1 h2
   rw [List.map_cons,eachS,hb73_4 ok hm (h1 h (by simp)) h2 i,bsm,ih (i+1) (dayStep b s h) (fun x hx=>h1 x (by simp [hx])) (dayStep_ok ok (h1 h (by simp)) h2)]
   rfl
 unfold g73
 rw [key order 0 (0,t) ho ht]
 rfl
theorem midA_zero {n:Nat} {left row:List Int} (h:left.length=n):midA n 0 left row=left:=by
 refine List.ext_getElem? fun k=>?_
 by_cases hk:k<n
 ·rw [midA_get left row hk,decide_eq_false (by omega),arr_in (by omega)];rfl
 ·rw [List.getElem?_eq_none (by rw [midA_len];omega),List.getElem?_eq_none (by omega)]
theorem midA_set {n j:Nat} {left row:List Int} (h:j<n):setL (midA n j left row) (j:Int) (arr left j - arr row j)=midA n (j+1) left row:=by
 unfold setL
 rw [Int.toNat_natCast]
 refine List.ext_getElem? fun k=>?_
 by_cases hk:k<n
 ·rw [midA_get left row hk]
  by_cases e:j=k
  ·subst e
   rw [List.getElem?_set_self (by rw [midA_len];omega),decide_eq_true (by omega)];rfl
  ·rw [List.getElem?_set_ne e,midA_get left row hk]
   by_cases e2:k<j
   ·rw [decide_eq_true e2,decide_eq_true (by omega)]
   ·rw [decide_eq_false e2,decide_eq_false (by omega)]
 ·rw [List.getElem?_eq_none (by rw [List.length_set,midA_len];omega),List.getElem?_eq_none (by rw [midA_len];omega)]
end Go.Proofs.YtjooihelppcfkaaDoor
namespace Go.Proofs.YtjooihelppcfkaaDoor
open Go Go.Abs Go.Proofs.Tr
theorem factAnd:((List.range 8).all fun (x:Nat)=>(List.range 8).all fun (y:Nat)=>bAnd (x:Int) (y:Int)==((x &&& y:Nat):Int))=true:=by kernel_rfl
theorem factOr:((List.range 8).all fun (x:Nat)=>(List.range 8).all fun (y:Nat)=>bOr (x:Int) (y:Int)==((x ||| y:Nat):Int))=true:=by kernel_rfl
theorem factSh:((List.range 4).all fun (h:Nat)=>shl64 1 (h:Int)==((2 ^ h:Nat):Int))=true:=by kernel_rfl
theorem factAll:((List.range 4).all fun (n:Nat)=>g74 (wr (shl64 1 (n:Int) - 1)) (n:Int)==some ((List.range n).map fun (h:Nat)=>(h:Int)))=true:=by kernel_rfl
theorem factMask:((List.range 4).all fun (n:Nat)=>wr (shl64 1 (n:Int) - 1)==((2 ^ n - 1:Nat):Int))=true:=by kernel_rfl
theorem all1 {P:Nat→Bool} {N n:Nat} (h:((List.range N).all P)=true) (hn:n<N):P n=true:=by
 rw [List.all_eq_true] at h
 exact h n (List.mem_range.2 hn)
theorem fAnd {x y:Nat} (hx:x<8) (hy:y<8):bAnd (x:Int) (y:Int)=((x &&& y:Nat):Int):=by simpa using all1 (all1 factAnd hx) hy
theorem fOr {x y:Nat} (hx:x<8) (hy:y<8):bOr (x:Int) (y:Int)=((x ||| y:Nat):Int):=by simpa using all1 (all1 factOr hx) hy
theorem fSh {h:Nat} (hh:h<4):shl64 1 (h:Int)=((2 ^ h:Nat):Int):=by simpa using all1 factSh hh
theorem fAll {n:Nat} (h:n<4):g74 (wr (shl64 1 (n:Int) - 1)) (n:Int)=some ((List.range n).map fun (h:Nat)=>(h:Int)):=by simpa using all1 factAll h
theorem fMask {n:Nat} (h:n<4):wr (shl64 1 (n:Int) - 1)=((2 ^ n - 1:Nat):Int):=by simpa using all1 factMask h
theorem p8 {n:Nat} (h:n≤3):2 ^ n≤8:=pow_le' h
theorem dayStep_nat {b:HarnessBook} (ok:HaOk b) {h:Nat} (hh:h<b.Needs.length) {s:Int×List Int} {x:Nat} (hx:x<2 ^ b.Needs.length) (hs:s.1=(x:Int)):∃ y:Nat,y<2 ^ b.Needs.length∧(dayStep b s h).1=(y:Int):=by
 have h3:=ok.n3
 have h8:=p8 h3
 unfold dayStep
 cases canS b s.2 h with
 | false=>exact ⟨x,hx,hs⟩
 | true=>
  have h2:2 ^ h<2 ^ b.Needs.length:=Nat.pow_lt_pow_right (by decide) hh
  refine ⟨x ||| 2 ^ h,Nat.or_lt_two_pow hx h2,?_⟩
  simp only [cond_true]
  rw [hs,fSh (by omega),fOr (by omega) (by omega)]
theorem day_nat {b:HarnessBook} (ok:HaOk b):∀ (order:List Nat),(∀ h,h∈order→h<b.Needs.length)→∀ (s:Int×List Int) (x:Nat),x<2 ^ b.Needs.length→s.1=(x:Int)→∃ y:Nat,y<2 ^ b.Needs.length∧(order.foldl (dayStep b) s).1=(y:Int)
 | [],ho,s,x,hx,hs=>⟨x,hx,hs⟩
 | h::os,ho,s,x,hx,hs=>by
  obtain ⟨y,hy,e⟩:=dayStep_nat ok (ho h (by simp)) hx hs
  exact day_nat ok os (fun k hk=>ho k (by simp [hk])) _ y hy e
def dayN (b:HarnessBook) (order:List Nat) (t:List Int):Nat:=(dayS b order t).toNat
theorem dayN_ok {b:HarnessBook} (ok:HaOk b) {order:List Nat} (ho:∀ h,h∈order→h<b.Needs.length) (t:List Int):dayN b order t<2 ^ b.Needs.length∧dayS b order t=(dayN b order t:Int):=by
 obtain ⟨y,hy,e⟩:=day_nat ok order ho (0,t) 0 (Nat.two_pow_pos _) rfl
 have e':dayS b order t=(y:Int):=e
 unfold dayN
 rw [e']
 exact ⟨by simpa using hy,by simp⟩
def setsN (b:HarnessBook) (order:List Nat):List Nat:=(truL b.Stock).map (dayN b order)
def sureN (b:HarnessBook) (order:List Nat):Nat:=(setsN b order).foldl (· &&& ·) (2 ^ b.Needs.length - 1)
def perhN (b:HarnessBook) (order:List Nat):Nat:=(setsN b order).foldl (· ||| ·) 0
theorem and_lt:∀ (l:List Nat) (x N:Nat),x<2 ^ N→l.foldl (· &&& ·) x<2 ^ N
 | [],x,N,h=>h
 | y::l,x,N,h=>by rw [List.foldl_cons];exact and_lt l _ N (Nat.lt_of_le_of_lt Nat.and_le_left h)
theorem sure_lt (b:HarnessBook) (order:List Nat):sureN b order<2 ^ b.Needs.length:=and_lt _ _ _ (by have:=Nat.two_pow_pos b.Needs.length;omega)
abbrev castL (l:List Nat):List Int:=l.map fun (h:Nat)=>(h:Int)
theorem hb60 {b:HarnessBook} (ok:HaOk b) {m:List (Harness_want×Int)} (hm:NdOk b m) {order:List Nat} (ho:∀ h,h∈order→h<b.Needs.length):g60 b (baldL b) m (castL order)=some ((sureN b order:Int),(perhN b order:Int)):=by
 have h3:=ok.n3
 have h8:=p8 h3
 have hc:∀ t,t∈truL b.Stock→∀ v:Int×Int,(fun a s=>rndC (g60_r6 b (baldL b) m (castL order)) a s) (arr t) (Ctl.next v:Ctl (Int×Int) Unit)=some (Ctl.next (bAnd v.1 (dayS b order t),bOr v.2 (dayS b order t)),true):=fun t ht v=>by
  obtain ⟨v1,v2⟩:=v
  simp only [rndC,g60_r6]
  rw [hb73 ok hm ho (tru_left ok ht)]
  rfl
 have h:=hb99 (fun a s=>rndC (g60_r6 b (baldL b) m (castL order)) a s) (Ctl.next:Int×Int→Ctl (Int×Int) Unit) (fun v t=>(bAnd v.1 (dayS b order t),bOr v.2 (dayS b order t))) ok (baldL b) m (wr (shl64 1 (b.Needs.length:Int) - 1),0) hc
 have key:∀ (ts:List (List Int)) (x y:Nat),x<2 ^ b.Needs.length→y<2 ^ b.Needs.length→ts.foldl (fun (v:Int×Int) t=>(bAnd v.1 (dayS b order t),bOr v.2 (dayS b order t))) ((x:Int),(y:Int))=((((ts.map (dayN b order)).foldl (· &&& ·) x:Nat):Int),(((ts.map (dayN b order)).foldl (· ||| ·) y:Nat):Int)):=by
  intro ts
  induction ts with
  | nil=>intro x y hx hy;rfl
  | cons t ts ih=>
   intro x y hx hy
   obtain ⟨d1,d2⟩:=dayN_ok ok ho t
   rw [List.foldl_cons,d2,fAnd (by omega) (by omega),fOr (by omega) (by omega),ih _ _ (Nat.lt_of_le_of_lt Nat.and_le_left hx) (Nat.or_lt_two_pow hy d1)]
   rfl
 unfold g60 g72
 rw [must_t (by simp),bsm,bsm]
 simp only
 rw [h,bsm,fMask (by omega)]
 have:=key (truL b.Stock) (2 ^ b.Needs.length - 1) 0 (by have:=Nat.two_pow_pos b.Needs.length;omega) (Nat.two_pow_pos _)
 rw [show ((0:Nat):Int)=0 from rfl] at this
 rw [this]
 rfl
theorem hb61 {b:HarnessBook} (ok:HaOk b) (bald:List Int) (m:List (Harness_want×Int)):g61 b bald m=some (castL (List.range b.Needs.length)):=by
 have h3:=ok.n3
 obtain ⟨l,e,hl⟩:=eachS_inv (f:=g61_3) (fun n l=>l=castL (List.range n)) b.Needs 0 [] rfl (fun j x l hj hx hl=>by
  rw [Nat.sub_zero] at hx
  have hlt:j<b.Needs.length:=(List.getElem?_eq_some_iff.1 hx).1
  refine ⟨l++[(j:Int)],?_,by rw [hl,List.range_succ,castL,castL,List.map_append];rfl⟩
  unfold g61_3
  rw [appL_ok (by rw [List.length_append,hl];simp;omega)]
  rfl)
 unfold g61
 rw [must_t (by simp;omega),bsm]
 rw [show ((0:Nat):Int)=0 from rfl] at e
 rw [e,bsm,hl,Nat.zero_add]
theorem eachS_forS {α S:Type} {f:Int→α→S→Option S} {g:Int→S→Option S} (h:∀ i x s,f i x s=g i s):∀ (xs:List α) (i:Int) (s:S),eachS f xs i s=forS g xs.length i s
 | [],i,s=>rfl
 | x::xs,i,s=>by
  rw [eachS,List.length_cons,forS,h]
  congr 1
  funext s'
  exact eachS_forS h xs (i+1) s'
theorem hb62_3 (set_:Int) (v:Int) (p:List Int) (l:List Int):g62_3 set_ v p l=g74_2 set_ v l:=by
 unfold g62_3 g74_2 g104
 cases must (decide (0≤v))<;>rfl
theorem hb62 {b:HarnessBook} (ok:HaOk b) (bald:List Int) (m:List (Harness_want×Int)) {s:Nat} (hs:s<2 ^ b.Needs.length):g62 b bald m (s:Int)=some (LT b.Needs.length s):=by
 have h3:=ok.n3
 have h:=f48 h3 hs
 unfold g74 at h
 rw [must_t (by simp;omega),bsm,Int.sub_zero,Int.toNat_natCast] at h
 have h':forS (g74_2 (s:Int)) b.Needs.length 0 ([]:List Int)=some (LT b.Needs.length s):=by
  cases hf:forS (g74_2 (s:Int)) b.Needs.length 0 ([]:List Int) with
  | none=>rw [hf] at h;cases h
  | some l=>rw [hf] at h;exact h
 unfold g62
 rw [must_t (by simp;omega),bsm,eachS_forS (hb62_3 (s:Int)),h',bsm,slcL_all,bsm]
theorem range_lt {n h:Nat} (hh:h∈List.range n):h<n:=List.mem_range.1 hh
theorem hb15 {b:HarnessBook} (ok:HaOk b):g15 b=some (LT b.Needs.length (sureN b (List.range b.Needs.length)),0):=by
 obtain ⟨m,e,hm⟩:=hb59 ok
 unfold g15
 rw [e,bsm]
 simp only [ne_eq,not_true_eq_false,decide_false,cond_false]
 rw [hb61 ok,bsm,hb60 ok hm (fun h=>range_lt),bsm]
 simp only
 rw [hb62 ok _ _ (sure_lt _ _),bsm]
def lenN (b:HarnessBook) (s:Nat):Int:=((LT b.Needs.length s).length:Int)
theorem factLen:((List.range 4).all fun (n:Nat)=>(List.range (2 ^ n)).all fun (s:Nat)=>decide ((LT n s).length≤n))=true:=by kernel_rfl
theorem len_bd {b:HarnessBook} (ok:HaOk b) {s:Nat} (hs:s<2 ^ b.Needs.length):0≤lenN b s∧lenN b s≤(b.Needs.length:Int):=by
 have h3:=ok.n3
 have:=of_decide_eq_true (all1 (all1 factLen (show b.Needs.length<4 by omega)) hs)
 unfold lenN
 omega
end Go.Proofs.YtjooihelppcfkaaDoor
namespace Go.Proofs.YtjooihelppcfkaaDoor
open Go Go.Abs Go.Proofs.Tr
theorem and_bit:∀ (l:List Nat) (x i:Nat),(l.foldl (· &&& ·) x).testBit i=(x.testBit i&&l.all (·.testBit i))
 | [],x,i=>by simp
 | y::l,x,i=>by rw [List.foldl_cons,and_bit l,Nat.testBit_and,List.all_cons,Bool.and_assoc]
theorem sure_bit {b:HarnessBook} {order:List Nat} {i:Nat} (hi:i<b.Needs.length):(sureN b order).testBit i=true↔∀ t,t∈truL b.Stock→(dayN b order t).testBit i=true:=by
 unfold sureN setsN
 rw [and_bit,Nat.testBit_two_pow_sub_one,decide_eq_true hi,Bool.true_and,List.all_eq_true]
 constructor
 ·intro h t ht
  exact h _ (List.mem_map.2 ⟨t,ht,rfl⟩)
 ·intro h s hs
  obtain ⟨t,ht,rfl⟩:=List.mem_map.1 hs
  exact h t ht
def sureL (b:HarnessBook):List Int:=LT b.Needs.length (sureN b (List.range b.Needs.length))
theorem truL_ne {b:HarnessBook} (ok:HaOk b):∃ t,t∈truL b.Stock:=by
 have h:=(truL_len b.Stock (fun s hs=>by have:=ok.st s hs;omega)).1
 match truL b.Stock,h with
 | t::ts,_=>exact ⟨t,by simp⟩
theorem hbFind (l:List Int) (i:Int):∃ j,g41 l i=some j∧decide (0≤j)=decide (i∈l)∧decide (j<0)=!decide (i∈l):=by
 obtain ⟨j,e,h⟩:=p96 l i
 refine ⟨j,e,decide_eq_decide.2 h,?_⟩
 rw [← decide_not,decide_eq_decide,← h];omega
def cntB (b:HarnessBook) (k:Nat) (c:Int):HarnessBook:=⟨b.Hair,b.Needs,setL b.Stock (k:Int) ⟨c,c⟩,b.Pack,b.Bad⟩
theorem hb15' {b:HarnessBook} (ok:HaOk b):g15 b=some (sureL b,0):=hb15 ok
end Go.Proofs.YtjooihelppcfkaaDoor
namespace Go.Proofs.YtjooihelppcfkaaDoor
open Go Go.Abs Go.Proofs.Tr
theorem all_rng {n:Nat} {p:Nat→Bool}:(List.range' 0 n).all p=true↔∀ k,k<n→p k=true:=by
 rw [List.all_eq_true]
 constructor
 ·intro h k hk;exact h k (by rw [List.mem_range'_1];omega)
 ·intro h k hk;rw [List.mem_range'_1] at hk;exact h k (by omega)
end Go.Proofs.YtjooihelppcfkaaDoor
namespace Go.Proofs.YtjooihelppcfkaaDoor
open Go Go.Abs Go.Proofs.Tr
def stepB (b:HarnessBook) (s:List Bool×List Int) (h:Nat):List Bool×List Int:=(s.1.set h (canS b s.2 h),(dayStep b (0,s.2) h).2)
def dayB (b:HarnessBook) (order:List Nat) (t:List Int):List Bool:=(order.foldl (stepB b) (List.replicate b.Needs.length false,t)).1
theorem dayStep_snd (b:HarnessBook) (s:Int×List Int) (h:Nat):(dayStep b s h).2=(dayStep b (0,s.2) h).2:=by
 unfold dayStep
 cases canS b s.2 h<;>rfl
theorem hb39_17 {b:HarnessBook} (ok:HaOk b) {h:Nat} (hh:h<b.Needs.length) {l4:List Bool} (h4:h<l4.length) {left:List Int} (hl:LeftOk b left):∀ (ls:List Int) (i:Nat) (v:Bool),i+ls.length=left.length→(∀ (j:Nat) x,ls[j]?=some x→left[i+j]?=some x) →
  eachS (g39_17 b (h:Int)) ls (i:Int) (l4.set h v)=some (l4.set h (v&&(List.range' i ls.length).all fun (k:Nat)=>decide (arr (rowOf b h) k≤arr left k)))
 | [],i,v,hn,hx=>by simp [eachS]
 | x::ls,i,v,hn,hx=>by
  rw [List.length_cons] at hn
  have hrow:=row_bd ok hh
  have hN:b.Needs[h]?=some (rowOf b h):=by unfold rowOf;rw [List.getElem?_eq_getElem hh];rfl
  have hxi:left[i]?=some x:=hx 0 x rfl
  have hxe:x=arr left i:=by unfold arr;rw [hxi];rfl
  have hlen:=hl.len
  have hs:g39_17 b (h:Int) (i:Int) x (l4.set h v)=some (l4.set h (v&&decide (arr (rowOf b h) i≤arr left i))):=by
   unfold g39_17
   rw [ixL_nat,List.getElem?_set_self h4,bsm]
   cases v with
   | true=>
    simp only [cond_true,Bool.true_and]
    rw [ixL_nat,hN,bsm,ixL_nat,arr_in (l:=rowOf b h) (by omega),bsm,hxe]
    unfold setL
    rw [Int.toNat_natCast,List.set_set]
   | false=>
    simp only [cond_false,Bool.false_and]
    unfold setL
    rw [Int.toNat_natCast,List.set_set]
  rw [eachS,hs,bsm,show (i:Int)+1=((i+1:Nat):Int) by omega,hb39_17 ok hh h4 hl ls (i+1) _ (by omega) (fun j y hj=>by
   have:=hx (j+1) y hj
   rwa [show i+(j+1)=i+1+j by omega] at this),List.length_cons,List.range'_succ,List.all_cons,Bool.and_assoc]
theorem hb39_31 {b:HarnessBook} (ok:HaOk b) {h:Nat} (hh:h<b.Needs.length) {l8:List Bool} (h8:l8[h]?=some true) {left:List Int} (hl:LeftOk b left):∀ (d j f:Nat),j+d=b.Stock.length→d+1≤f→whileC (g39_31 b (h:Int) l8) f ((j:Int),midA b.Stock.length j left (rowOf b h))=some (midA b.Stock.length b.Stock.length left (rowOf b h))
 | d,j,0,hd,hf=>by omega
 | 0,j,f+1,hd,hf=>by
  have e:j=b.Stock.length:=by omega
  subst e
  rw [whileC,g39_31]
  rw [ixL_nat,h8,bsm]
  simp only [cond_true,bsm]
  rw [decide_eq_false (by rw [midA_len];omega)]
  rfl
 | d+1,j,f+1,hd,hf=>by
  have h3:=ok.s3
  have hrow:=row_bd ok hh
  have hN:b.Needs[h]?=some (rowOf b h):=by unfold rowOf;rw [List.getElem?_eq_getElem hh];rfl
  have a1:=hl.bd j
  have a2:=hrow.2 j
  rw [whileC,g39_31]
  rw [ixL_nat,h8,bsm]
  simp only [cond_true,bsm]
  rw [decide_eq_true (by rw [midA_len];omega),cond_true,ixL_nat,midA_get left _ (by omega),decide_eq_false (by omega),cond_false,bsm,ixL_nat,hN,bsm,ixL_nat,arr_in (l:=rowOf b h) (by omega),bsm,wr_in (n:=arr left j - arr (rowOf b h) j) (by omega) (by omega),midA_set (by omega),wr_in (n:=(j:Int)+1) (by omega) (by omega),bsm]
  exact hb39_31 ok hh h8 hl d (j+1) f (by omega) (by omega)
theorem hb39_7 {b:HarnessBook} (ok:HaOk b) {h:Nat} (hh:h<b.Needs.length) {l4:List Bool} (h4:l4.length=b.Needs.length) {left:List Int} (hl:LeftOk b left) (i:Int):g39_7 b (hasL b) i (h:Int) (l4,left)=some (stepB b (l4,left) h):=by
 have h3:=ok.s3
 have hrow:=row_bd ok hh
 have h17:=hb39_17 ok hh (l4:=l4) (by omega) hl left 0 (!decide ((h:Int)∈baldL b)) (by omega) (fun j x hj=>by rwa [Nat.zero_add])
 have hlen:=hl.len
 rw [hlen,show ((0:Nat):Int)=0 from rfl] at h17
 have hcan:(!decide ((h:Int)∈baldL b)&&(List.range' 0 b.Stock.length).all fun (k:Nat)=>decide (arr (rowOf b h) k≤arr left k))=canS b left h:=rfl
 rw [hcan] at h17
 unfold g39_7
 simp only
 rw [ixL_nat,hasL_get b hh,bsm,ixL_nat,List.getElem?_eq_getElem (by omega),bsm]
 unfold setL
 rw [Int.toNat_natCast,h17,bsm]
 unfold stepB dayStep
 simp only
 cases hc:canS b left h with
 | false=>
  have hw:whileC (g39_31 b (h:Int) (l4.set h false)) 1000 (0,left)=some left:=by
   rw [whileC,g39_31]
   rw [ixL_nat,List.getElem?_set_self (by omega),bsm]
   rfl
  rw [hw]
  rfl
 | true=>
  have hw:=hb39_31 ok hh (l8:=l4.set h true) (by rw [List.getElem?_set_self (by omega)]) hl b.Stock.length 0 1000 (by omega) (by omega)
  rw [midA_zero hl.len,show ((0:Nat):Int)=0 from rfl] at hw
  rw [hw]
  rfl
theorem stepB_len (b:HarnessBook) (s:List Bool×List Int) (h:Nat):(stepB b s h).1.length=s.1.length:=by unfold stepB;simp
theorem hb39 {b:HarnessBook} (ok:HaOk b) {order:List Nat} (ho:∀ h,h∈order→h<b.Needs.length) {t:List Int} (ht:LeftOk b t):g39 b (hasL b) (castL order) t=some (dayB b order t):=by
 have h3:=ok.s3
 have hn:=ok.n3
 have key:∀ (os:List Nat) (i:Int) (s:List Bool×List Int),(∀ h,h∈os→h<b.Needs.length)→s.1.length=b.Needs.length→LeftOk b s.2→eachS (g39_7 b (hasL b)) (castL os) i s=some (os.foldl (stepB b) s):=by
  intro os
  induction os with
  | nil=>intro i s h1 h2 h3;rfl
  | cons h os ih=>
   intro i s h1 h2 h3
   obtain ⟨s1,s2⟩:=s
   have hh:=h1 h (by simp)
   rw [castL,List.map_cons,eachS,hb39_7 ok hh h2 h3 i,bsm]
   exact ih (i+1) (stepB b (s1,s2) h) (fun x hx=>h1 x (by simp [hx])) (by rw [stepB_len];exact h2) (dayStep_ok ok hh (s:=(0,s2)) h3)
 have hmk:mkL2 1 (b.Needs.length:Int) (b.Needs.length:Int) false=some (List.replicate b.Needs.length false):=by
  unfold mkL2
  have:(decide ((0:Int)≤(b.Needs.length:Int))&&(decide ((b.Needs.length:Int)≤(b.Needs.length:Int))&&(decide (((1:Nat):Int)*(b.Needs.length:Int)≤281474976710656)&&decide ((b.Needs.length:Int)≤9223372036854775807))))=true:=by
   simp only [Bool.and_eq_true,decide_eq_true_eq];omega
  rw [this]
  simp
 unfold g39
 rw [hmk,bsm,appL_ok (by rw [List.nil_append,ht.len];omega),bsm,List.nil_append,key order 0 _ ho (by simp) ht]
 rfl
theorem dayB_bits {b:HarnessBook} (ok:HaOk b):∀ (os done:List Nat) (s:Int×List Int) (l:List Bool) (x:Nat),(∀ h,h∈os→h<b.Needs.length)→os.Nodup→(∀ h,h∈os→¬ h∈done)→x<2 ^ b.Needs.length→s.1=(x:Int)→l.length=b.Needs.length→(∀ i,i<b.Needs.length→l[i]?=some (x.testBit i))→(∀ i,x.testBit i=true→i∈done) →
  ∃ y:Nat,y<2 ^ b.Needs.length∧(os.foldl (dayStep b) s).1=(y:Int)∧(os.foldl (stepB b) (l,s.2)).1.length=b.Needs.length∧∀ i,i<b.Needs.length→(os.foldl (stepB b) (l,s.2)).1[i]?=some (y.testBit i)
 | [],done,s,l,x,ho,hnd,hdis,hx,hs,hl,hb,hd=>⟨x,hx,hs,hl,hb⟩
 | h::os,done,s,l,x,ho,hnd,hdis,hx,hs,hl,hb,hd=>by
  have h3:=ok.n3
  have h8:=p8 h3
  have hh:=ho h (by simp)
  have hxh:x.testBit h=false:=by
   cases hc:x.testBit h with
   | false=>rfl
   | true=>exact absurd (hd h hc) (hdis h (by simp))
  have h2:2 ^ h<2 ^ b.Needs.length:=Nat.pow_lt_pow_right (by decide) hh
  rw [List.foldl_cons,List.foldl_cons]
  have hsnd:(stepB b (l,s.2) h)=(l.set h (canS b s.2 h),(dayStep b s h).2):=by
   unfold stepB;rw [dayStep_snd b s h]
  rw [hsnd]
  rw [List.nodup_cons] at hnd
  have hdis':∀ k,k∈os→¬ k∈h::done:=fun k hk hm=>by
   rcases List.mem_cons.1 hm with rfl | hm
   ·exact hnd.1 hk
   ·exact hdis k (by simp [hk]) hm
  cases hc:canS b s.2 h with
  | false=>
   have e:dayStep b s h=s:=by unfold dayStep;rw [hc];rfl
   rw [e]
   refine dayB_bits ok os (h::done) s (l.set h false) x (fun k hk=>ho k (by simp [hk])) hnd.2 hdis' hx hs (by simp [hl]) (fun i hi=>?_) (fun i hi=>by simp [hd i hi])
   by_cases e2:h=i
   ·subst e2;rw [List.getElem?_set_self (by omega),hxh]
   ·rw [List.getElem?_set_ne e2];exact hb i hi
  | true=>
   have e:(dayStep b s h).1=((x ||| 2 ^ h:Nat):Int):=by
    unfold dayStep
    rw [hc]
    simp only [cond_true]
    rw [hs,fSh (by omega),fOr (by omega) (by omega)]
   refine dayB_bits ok os (h::done) (dayStep b s h) (l.set h true) (x ||| 2 ^ h) (fun k hk=>ho k (by simp [hk])) hnd.2 hdis' (Nat.or_lt_two_pow hx h2) e (by simp [hl]) (fun i hi=>?_) (fun i hi=>?_)
   ·rw [Nat.testBit_or,Nat.testBit_two_pow]
    by_cases e2:h=i
    ·subst e2;rw [List.getElem?_set_self (by omega)];simp
    ·rw [List.getElem?_set_ne e2,decide_eq_false e2,Bool.or_false];exact hb i hi
   ·rw [Nat.testBit_or,Nat.testBit_two_pow,Bool.or_eq_true,decide_eq_true_eq] at hi
    rcases hi with hi | hi
    ·simp [hd i hi]
    ·simp [hi]
theorem dayB_get {b:HarnessBook} (ok:HaOk b) {order:List Nat} (ho:∀ h,h∈order→h<b.Needs.length) (hnd:order.Nodup) (t:List Int):(dayB b order t).length=b.Needs.length∧∀ i,i<b.Needs.length→(dayB b order t)[i]?=some ((dayN b order t).testBit i):=by
 obtain ⟨y,hy,e,h1,h2⟩:=dayB_bits ok order [] (0,t) (List.replicate b.Needs.length false) 0 ho hnd (fun h _ hm=>by cases hm) (Nat.two_pow_pos _) rfl (by simp) (fun i hi=>by rw [List.getElem?_replicate,if_pos hi,Nat.zero_testBit]) (fun i hi=>by rw [Nat.zero_testBit] at hi;cases hi)
 have hd:dayN b order t=y:=by
  unfold dayN dayS
  rw [e];simp
 rw [hd]
 exact ⟨h1,h2⟩
theorem hb40 {b:HarnessBook} (ok:HaOk b):g40 b=some (castL (List.range b.Needs.length)):=by
 have h3:=ok.n3
 unfold g40
 rw [must_t (by simp),bsm,fAll (by omega),bsm]
theorem factCount:((List.range 4).all fun (n:Nat)=>(List.range (2 ^ n)).all fun (s:Nat)=>decide ((LT n s).length=((List.range' 0 n).filter fun (i:Nat)=>s.testBit i).length))=true:=by kernel_rfl
theorem count_eq {b:HarnessBook} (ok:HaOk b) {s:Nat} (hs:s<2 ^ b.Needs.length):lenN b s=(((List.range' 0 b.Needs.length).filter fun (i:Nat)=>s.testBit i).length:Int):=by
 have h3:=ok.n3
 have:=of_decide_eq_true (all1 (all1 factCount (show b.Needs.length<4 by omega)) hs)
 unfold lenN
 omega
end Go.Proofs.YtjooihelppcfkaaDoor
namespace Go.Proofs.YtjooihelppcfkaaDoor
open Go Go.Abs Go.Proofs.Tr
def allH (b:HarnessBook):List Nat:=List.range b.Needs.length
def openN (b:HarnessBook):Int:=lenN b (perhN b (allH b)) - lenN b (sureN b (allH b))
def worstN (b:HarnessBook) (k:Nat):Int:=(List.range' 0 (highOf b k - lowOf b k+1).toNat).foldl (fun w (j:Nat)=>max w (openN (cntB b k (lowOf b k+(j:Int))))) 0
def stepF (b:HarnessBook) (s:Int×Int) (k:Nat):Int×Int:=bif decide (s.1<0)||decide (worstN b k<s.2) then ((k:Int),worstN b k) else s
end Go.Proofs.YtjooihelppcfkaaDoor
namespace Go.Proofs.YtjooihelppcfkaaDoor
open Go Go.Abs Go.Proofs.Tr
def quL (n:Nat):Nat→List Nat→List (List Nat)
 | 0,pre=>[pre]
 | d+1,pre=>(List.range' 0 n).flatMap fun (h:Nat)=>bif decide (h∈pre) then [] else quL n d (pre++[h])
theorem quL_mem {n:Nat}:∀ (d:Nat) (pre q:List Nat),(∀ h,h∈pre→h<n)→q∈quL n d pre→(∀ h,h∈q→h<n)∧q.length=pre.length+d
 | 0,pre,q,hp,hq=>by
  simp only [quL,List.mem_singleton] at hq
  subst hq
  exact ⟨hp,by omega⟩
 | d+1,pre,q,hp,hq=>by
  rw [quL] at hq
  obtain ⟨h,hh,hq⟩:=List.mem_flatMap.1 hq
  rw [List.mem_range'_1] at hh
  cases hc:decide (h∈pre) with
  | true=>rw [hc] at hq;cases hq
  | false=>
   rw [hc] at hq
   obtain ⟨a,c⟩:=quL_mem d (pre++[h]) q (fun k hk=>by
    rcases List.mem_append.1 hk with hk | hk
    ·exact hp k hk
    ·rw [List.mem_singleton] at hk;omega) hq
   exact ⟨a,by rw [c,List.length_append,List.length_singleton];omega⟩
theorem castL_mem {l:List Nat} {h:Nat}:(h:Int)∈castL l↔h∈l:=by
 unfold castL
 rw [List.mem_map]
 constructor
 ·rintro ⟨k,hk,e⟩
  have:k=h:=by omega
  subst this;exact hk
 ·intro hh;exact ⟨h,hh,rfl⟩
theorem castL_len (l:List Nat):(castL l).length=l.length:=List.length_map ..
theorem castL_snoc (l:List Nat) (h:Nat):castL l++[(h:Int)]=castL (l++[h]):=by unfold castL;rw [List.map_append];rfl
def stepQ (b:HarnessBook) (s:Int×List Int) (q:List Nat):Int×List Int:=bif decide (s.1<lenN b (sureN b q)) then (lenN b (sureN b q),castL q) else s
theorem hb88 {b:HarnessBook} (ok:HaOk b) {m:List (Harness_want×Int)} (hm:NdOk b m):∀ (d:Nat) (pre:List Nat) (f:Nat) (s:Int×List Int),pre.length+d=b.Needs.length→d+1≤f→(∀ h,h∈pre→h<b.Needs.length)→g88 f (castL pre) b b (baldL b) m s.1 s.2=some ((quL b.Needs.length d pre).foldl (stepQ b) s)
 | d,pre,0,s,hl,hf,hp=>by omega
 | 0,pre,f+1,s,hl,hf,hp=>by
  obtain ⟨s1,s2⟩:=s
  rw [g88]
  rw [castL_len,decide_eq_true (by omega),cond_true,hb60 ok hm hp,bsm]
  simp only
  rw [hb62 ok _ _ (sure_lt _ _),bsm]
  show (bif decide (s1<lenN b (sureN b pre)) then some (lenN b (sureN b pre),castL pre) else some (s1,s2))=some (stepQ b (s1,s2) pre)
  unfold stepQ
  simp only
  cases decide (s1<lenN b (sureN b pre))<;>rfl
 | d+1,pre,f+1,s,hl,hf,hp=>by
  have h3:=ok.n3
  have key:∀ (ls:List (List Int)) (i:Nat) (s:Int×List Int),i+ls.length=b.Needs.length→eachS (g88_12 (g88 f) (castL pre) b b (baldL b) m) ls (i:Int) s=some (((List.range' i ls.length).flatMap fun (h:Nat)=>bif decide (h∈pre) then [] else quL b.Needs.length d (pre++[h])).foldl (stepQ b) s):=by
   intro ls
   induction ls with
   | nil=>intro i s hi;rfl
   | cons l ls ih=>
    intro i s hi
    rw [List.length_cons] at hi
    have hs:g88_12 (g88 f) (castL pre) b b (baldL b) m (i:Int) l s=some ((bif decide (i∈pre) then [] else quL b.Needs.length d (pre++[i])).foldl (stepQ b) s):=by
     obtain ⟨s1,s2⟩:=s
     unfold g88_12
     simp only
     rw [hb89,bsm]
     by_cases hc:i∈pre
     ·rw [decide_eq_true (castL_mem.2 hc),decide_eq_true hc]
      rfl
     ·rw [decide_eq_false (fun h=>hc (castL_mem.1 h)),decide_eq_false hc]
      simp only [Bool.not_false,cond_true,cond_false]
      have hr:=hb88 ok hm d (pre++[i]) f (s1,s2) (by simp;omega) (by omega) (fun k hk=>by
       rcases List.mem_append.1 hk with hk | hk
       ·exact hp k hk
       ·rw [List.mem_singleton] at hk;omega)
      rw [slcL_all,bsm,appL_ok (by rw [List.length_append,castL_len,List.length_singleton];omega),bsm,castL_snoc]
      simp only at hr
      rw [hr,bsm]
    rw [eachS,hs,bsm,show (i:Int)+1=((i+1:Nat):Int) by omega,ih (i+1) _ (by omega),List.length_cons,List.range'_succ,List.flatMap_cons,List.foldl_append]
  have hk:=key b.Needs 0 s (by omega)
  rw [show ((0:Nat):Int)=0 from rfl] at hk
  rw [g88]
  rw [castL_len,decide_eq_false (by omega),cond_false,hk,bsm,quL]
def allQ (b:HarnessBook):List (List Nat):=quL b.Needs.length b.Needs.length []
def bestQ (b:HarnessBook):Int×List Int:=(allQ b).foldl (stepQ b) (-1,[])
theorem factQu:((List.range 4).all fun (n:Nat)=>decide (0<(quL n n []).length))=true:=by kernel_rfl
theorem allQ_cons {b:HarnessBook} (ok:HaOk b):∃ q l,allQ b=q::l:=by
 have h3:=ok.n3
 have h:=of_decide_eq_true (all1 factQu (show b.Needs.length<4 by omega))
 unfold allQ
 match quL b.Needs.length b.Needs.length [],h with
 | q::l,_=>exact ⟨q,l,rfl⟩
theorem allQ_mem {b:HarnessBook} {q:List Nat} (hq:q∈allQ b):(∀ h,h∈q→h<b.Needs.length)∧q.length=b.Needs.length:=by
 have:=quL_mem (n:=b.Needs.length) b.Needs.length [] q (fun h hh=>by cases hh) hq
 simpa using this
theorem hb33 {b:HarnessBook} (ok:HaOk b):g33 b=some ((bestQ b).2,0):=by
 have h3:=ok.n3
 obtain ⟨m,e,hm⟩:=hb59 ok
 have h:=hb88 ok hm b.Needs.length [] 1000 (-1,[]) (by simp) (by omega) (fun h hh=>by cases hh)
 unfold g33
 rw [e,bsm]
 simp only [ne_eq,not_true_eq_false,decide_false,cond_false]
 simp only [castL,List.map_nil] at h
 rw [h,bsm]
 show ((slcL (bestQ b).2 0 ((bestQ b).2.length:Int)).bind _)=_
 rw [slcL_all,bsm]
end Go.Proofs.YtjooihelppcfkaaDoor
namespace Go.Proofs.YtjooihelppcfkaaDoor
open Go Go.Abs Go.Proofs.Tr
def wN (s:Span):Nat:=(s.High - s.Low+1).toNat
def prodN:List Span→Nat
 | []=>1
 | s::ss=>wN s*prodN ss
def decN:List Span→Nat→List Int
 | [],_=>[]
 | s::ss,c=>(s.Low+((c % wN s:Nat):Int))::decN ss (c / wN s)
theorem dec_tru:∀ (ss:List Span) (c:Nat),(∀ s,s∈ss→s.Low≤s.High)→decN ss c∈truL ss
 | [],c,h=>by simp [decN,truL]
 | s::ss,c,h=>by
  have hs:=h s (by simp)
  have hw:0<wN s:=by unfold wN;omega
  rw [decN,truL]
  refine List.mem_flatMap.2 ⟨c % wN s,?_,List.mem_map.2 ⟨_,dec_tru ss (c / wN s) (fun x hx=>h x (by simp [hx])),rfl⟩⟩
  rw [List.mem_range'_1]
  have:=Nat.mod_lt c hw
  unfold wN at *
  omega
theorem tru_dec:∀ (ss:List Span) (t:List Int),(∀ s,s∈ss→s.Low≤s.High)→t∈truL ss→∃ c,c<prodN ss∧decN ss c=t
 | [],t,h,ht=>by
  simp only [truL,List.mem_singleton] at ht
  subst ht
  exact ⟨0,by decide,rfl⟩
 | s::ss,t,h,ht=>by
  have hs:=h s (by simp)
  rw [truL] at ht
  obtain ⟨n,hn,ht⟩:=List.mem_flatMap.1 ht
  obtain ⟨u,hu,rfl⟩:=List.mem_map.1 ht
  rw [List.mem_range'_1] at hn
  obtain ⟨c,hc,e⟩:=tru_dec ss u (fun x hx=>h x (by simp [hx])) hu
  have hw:n<wN s:=by unfold wN;omega
  refine ⟨n+wN s*c,?_,?_⟩
  ·rw [prodN]
   have:wN s*(c+1)≤wN s*prodN ss:=Nat.mul_le_mul_left _ (by omega)
   rw [Nat.mul_add,Nat.mul_one] at this
   omega
  ·rw [decN,Nat.add_mul_mod_self_left,Nat.mod_eq_of_lt hw,Nat.add_mul_div_left _ _ (by omega),Nat.div_eq_of_lt hw,Nat.zero_add,e]
theorem prod_bd:∀ (ss:List Span),(∀ s,s∈ss→s.Low≤s.High∧s.High - s.Low≤4)→prodN ss≤5 ^ ss.length
 | [],h=>Nat.le_refl _
 | s::ss,h=>by
  have hs:=h s (by simp)
  rw [prodN,List.length_cons,Nat.pow_succ,Nat.mul_comm (5 ^ ss.length)]
  exact Nat.mul_le_mul (by unfold wN;omega) (prod_bd ss (fun x hx=>h x (by simp [hx])))
theorem w_int {s:Span} (h1:s.Low≤s.High):s.High - s.Low+1=((wN s:Nat):Int):=by unfold wN;omega
theorem hb53_4:∀ (ss:List Span) (i:Int) (a:Nat),(∀ s,s∈ss→0≤s.Low∧s.Low≤s.High∧s.High≤40∧s.High - s.Low≤4)→a*5 ^ ss.length≤1000→eachS g53_4 ss i (a:Int)=some ((a*prodN ss:Nat):Int)
 | [],i,a,h,ha=>by simp [eachS,prodN]
 | s::ss,i,a,h,ha=>by
  have hs:=h s (by simp)
  rw [List.length_cons,Nat.pow_succ] at ha
  have hw:wN s≤5:=by unfold wN;omega
  have h1:a*wN s≤a*5:=Nat.mul_le_mul_left _ hw
  have h5:1≤5 ^ ss.length:=Nat.one_le_pow _ _ (by decide)
  have h2:a*5*1≤a*5*5 ^ ss.length:=Nat.mul_le_mul_left _ h5
  have h3:a*wN s*5 ^ ss.length≤a*5*5 ^ ss.length:=Nat.mul_le_mul_right _ h1
  have e3:a*(5 ^ ss.length*5)=a*5*5 ^ ss.length:=by rw [Nat.mul_comm (5 ^ ss.length) 5,Nat.mul_assoc]
  rw [e3] at ha
  have e:(a:Int)*((wN s:Nat):Int)=((a*wN s:Nat):Int):=by simp
  rw [eachS,g53_4,wr_in (n:=s.High - s.Low) (by omega) (by omega),wr_in (n:=s.High - s.Low+1) (by omega) (by omega),w_int hs.2.1,e,wr_in (by omega) (by omega),bsm,hb53_4 ss (i+1) (a*wN s) (fun x hx=>h x (by simp [hx])) (by omega),prodN,Nat.mul_assoc]
theorem hb53_20:∀ (ss:List Span) (i:Int) (c:Nat) (acc:List Int),(∀ s,s∈ss→0≤s.Low∧s.Low≤s.High∧s.High≤40∧s.High - s.Low≤4)→acc.length+ss.length≤100→c≤1000→∃ r,eachS g53_20 ss i ((c:Int),acc)=some (r,acc++decN ss c)
 | [],i,c,acc,h,ha,hc=>⟨(c:Int),by simp [eachS,decN]⟩
 | s::ss,i,c,acc,h,ha,hc=>by
  rw [List.length_cons] at ha
  have hs:=h s (by simp)
  have hw:0<wN s∧wN s≤5:=by unfold wN;omega
  have hm:=Nat.mod_lt c hw.1
  have hd:c / wN s≤c:=Nat.div_le_self _ _
  obtain ⟨r,e⟩:=hb53_20 ss (i+1) (c / wN s) (acc++[s.Low+((c % wN s:Nat):Int)]) (fun x hx=>h x (by simp [hx])) (by rw [List.length_append,List.length_singleton];omega) (by omega)
  refine ⟨r,?_⟩
  have q0:(0:Int)≤((c / wN s:Nat):Int):=Int.natCast_nonneg _
  have q1:(0:Int)≤((c % wN s:Nat):Int):=Int.natCast_nonneg _
  have e1:(c:Int).tmod ((wN s:Nat):Int)=((c % wN s:Nat):Int):=rfl
  have e2:(c:Int).tdiv ((wN s:Nat):Int)=((c / wN s:Nat):Int):=rfl
  rw [eachS,g53_20]
  rw [wr_in (n:=s.High - s.Low) (by omega) (by omega),wr_in (n:=s.High - s.Low+1) (by omega) (by omega),w_int hs.2.1,must_t (by simp;omega),bsm,e1,e2,wr_in (n:=s.Low+((c % wN s:Nat):Int)) (by omega) (by omega),appL_ok (by rw [List.length_append,List.length_singleton];omega),bsm,bsm,wr_in (n:=((c / wN s:Nat):Int)) (by omega) (by omega),bsm,e,decN,List.append_assoc]
  rfl
theorem day_bald {b:HarnessBook} (ok:HaOk b) {i:Nat} (hi:i<b.Needs.length) (hb:(i:Int)∈baldL b) {order:List Nat} (ho:∀ h,h∈order→h<b.Needs.length) (t:List Int):(dayN b order t).testBit i=false:=by
 have h3:=ok.n3
 have h8:=p8 h3
 have key:∀ (os:List Nat) (s:Int×List Int) (x:Nat),(∀ h,h∈os→h<b.Needs.length)→x<2 ^ b.Needs.length→s.1=(x:Int)→x.testBit i=false→((os.foldl (dayStep b) s).1).toNat.testBit i=false:=by
  intro os
  induction os with
  | nil=>intro s x h1 h2 h3 h4;simp only [List.foldl_nil];rw [h3];simpa using h4
  | cons h os ih=>
   intro s x h1 h2 hs h4
   have hh:=h1 h (by simp)
   have h2h:2 ^ h<2 ^ b.Needs.length:=Nat.pow_lt_pow_right (by decide) hh
   rw [List.foldl_cons]
   unfold dayStep
   cases hc:canS b s.2 h with
   | false=>exact ih s x (fun k hk=>h1 k (by simp [hk])) h2 hs h4
   | true=>
    have hne:h≠i:=fun e=>by
     subst e
     unfold canS at hc
     rw [decide_eq_true hb] at hc
     cases hc
    refine ih _ (x ||| 2 ^ h) (fun k hk=>h1 k (by simp [hk])) (Nat.or_lt_two_pow h2 h2h) ?_ ?_
    ·simp only [cond_true]
     rw [hs,fSh (by omega),fOr (by omega) (by omega)]
    ·rw [Nat.testBit_or,Nat.testBit_two_pow,h4,decide_eq_false hne];rfl
 exact key order (0,t) 0 ho (Nat.two_pow_pos _) rfl (Nat.zero_testBit i)
def andB (b:HarnessBook) (order:List Nat) (c i:Nat):Bool:=!decide ((i:Int)∈baldL b)&&(List.range' 0 c).all fun (k:Nat)=>(dayN b order (decN b.Stock k)).testBit i
theorem hb53_36 {n:Nat} {l ds:List Bool} (hl:l.length=n) (hd:ds.length=n):∃ l',eachS g53_36 ds 0 l=some l'∧l'.length=n∧∀ i,i<n→l'[i]?=some ((l[i]?).getD false&&(ds[i]?).getD false):=by
 obtain ⟨l',e,h1,h2⟩:=eachS_inv (f:=g53_36) (fun j l'=>l'.length=n∧∀ i,i<n→l'[i]?=some (bif decide (i<j) then (l[i]?).getD false&&(ds[i]?).getD false else (l[i]?).getD false)) ds 0 l ⟨hl,fun i hi=>by rw [decide_eq_false (by omega),List.getElem?_eq_getElem (by omega)];rfl⟩ (fun j d l1 hj hx h=>by
  rw [Nat.sub_zero] at hx
  have hlt:j<n:=by rw [← hd];exact (List.getElem?_eq_some_iff.1 hx).1
  have hj1:=h.2 j hlt
  rw [decide_eq_false (by omega),cond_false] at hj1
  have hde:(ds[j]?).getD false=d:=by rw [hx];rfl
  refine ⟨l1.set j ((l[j]?).getD false&&d),?_,by simp [h.1],fun i hi=>?_⟩
  ·unfold g53_36
   rw [ixL_nat,hj1,bsm]
   unfold setL
   rw [Int.toNat_natCast]
   cases (l[j]?).getD false<;>cases d<;>rfl
  ·by_cases e:j=i
   ·subst e
    rw [List.getElem?_set_self (by omega),decide_eq_true (by omega),hde];rfl
   ·rw [List.getElem?_set_ne e,h.2 i hi]
    by_cases e2:i<j
    ·rw [decide_eq_true e2,decide_eq_true (by omega)]
    ·rw [decide_eq_false e2,decide_eq_false (by omega)])
 rw [show ((0:Nat):Int)=0 from rfl] at e
 refine ⟨l',e,h1,fun i hi=>?_⟩
 rw [h2 i hi,decide_eq_true (by omega)];rfl
theorem hb53_loop {b:HarnessBook} (ok:HaOk b) {order:List Nat} (ho:∀ h,h∈order→h<b.Needs.length) (hnd:order.Nodup) (hm:prodN b.Stock≤125):∀ (d c f:Nat) (l:List Bool),c+d=prodN b.Stock→d+1≤f→l.length=b.Needs.length→(∀ i,i<b.Needs.length→l[i]?=some (andB b order c i)) →
  ∃ l',whileC (g53_15 b (hasL b) (castL order) ((prodN b.Stock:Nat):Int)) f ((c:Int),l)=some l'∧l'.length=b.Needs.length∧∀ i,i<b.Needs.length→l'[i]?=some (andB b order (prodN b.Stock) i)
 | d,c,0,l,hd,hf,hl,h=>by omega
 | 0,c,f+1,l,hd,hf,hl,h=>by
  have e:c=prodN b.Stock:=by omega
  subst e
  refine ⟨l,?_,hl,h⟩
  rw [whileC,g53_15]
  simp only
  rw [decide_eq_false (by omega)]
  rfl
 | d+1,c,f+1,l,hd,hf,hl,h=>by
  have h3:=ok.s3
  obtain ⟨r,e20⟩:=hb53_20 b.Stock 0 c [] (fun s hs=>ok.st s hs) (by simp;omega) (by omega)
  have ht:=dec_tru b.Stock c (fun s hs=>(ok.st s hs).2.1)
  obtain ⟨d1,d2⟩:=dayB_get ok ho hnd (decN b.Stock c)
  obtain ⟨l',e36,l1,l2⟩:=hb53_36 hl d1
  have hs:g53_15 b (hasL b) (castL order) ((prodN b.Stock:Nat):Int) ((c:Int),l)=some (.next (((c+1:Nat):Int),l')):=by
   unfold g53_15
   simp only
   rw [decide_eq_true (by omega),decide_eq_true (by omega)]
   simp only [Bool.and_self,cond_true]
   rw [e20,bsm]
   simp only [List.nil_append]
   rw [hb39 ok ho (tru_left ok ht),bsm,e36,bsm,wr_nat (by omega)]
  rw [whileC,hs,bsm]
  simp only
  refine hb53_loop ok ho hnd hm d (c+1) f l' (by omega) (by omega) l1 (fun i hi=>?_)
  rw [l2 i hi,h i hi,d2 i hi]
  unfold andB
  rw [List.range'_1_concat,List.all_append,Nat.zero_add]
  simp only [Option.getD_some,List.all_cons,List.all_nil,Bool.and_true,Bool.and_assoc]
theorem hb53 {b:HarnessBook} (ok:HaOk b) {order:List Nat} (ho:∀ h,h∈order→h<b.Needs.length) (hnd:order.Nodup):g53 b (hasL b) (castL order)=some (lenN b (sureN b order)):=by
 have h3:=ok.s3
 have hn:=ok.n3
 have h5:5 ^ b.Stock.length≤125:=Nat.le_trans (Nat.pow_le_pow_right (by omega) h3) (by decide)
 have hm:prodN b.Stock≤125:=Nat.le_trans (prod_bd b.Stock (fun s hs=>by have:=ok.st s hs;omega)) h5
 have e4:=hb53_4 b.Stock 0 1 (fun s hs=>ok.st s hs) (by omega)
 rw [Nat.one_mul,show ((1:Nat):Int)=1 from rfl] at e4
 have hhl:(hasL b).length=b.Needs.length:=by unfold hasL;simp
 obtain ⟨l',e,l1,l2⟩:=hb53_loop ok ho hnd hm (prodN b.Stock) 0 1000 (hasL b) (by omega) (by omega) hhl (fun i hi=>by rw [hasL_get b hi];unfold andB;simp)
 have hbit:∀ i,i<b.Needs.length→andB b order (prodN b.Stock) i=(sureN b order).testBit i:=fun i hi=>by
  rw [Bool.eq_iff_iff,sure_bit hi]
  unfold andB
  rw [Bool.and_eq_true,all_rng]
  constructor
  ·rintro ⟨_,h⟩ t ht
   obtain ⟨c,hc,rfl⟩:=tru_dec b.Stock t (fun s hs=>(ok.st s hs).2.1) ht
   exact h c hc
  ·intro h
   refine ⟨?_,fun k hk=>h _ (dec_tru b.Stock k (fun s hs=>(ok.st s hs).2.1))⟩
   obtain ⟨t,ht⟩:=truL_ne ok
   by_cases hb:(i:Int)∈baldL b
   ·have:=h t ht
    rw [day_bald ok hi hb ho t] at this
    cases this
   ·rw [decide_eq_false hb];rfl
 have hl':l'=(List.range' 0 b.Needs.length).map fun (i:Nat)=>(sureN b order).testBit i:=by
  refine List.ext_getElem? fun i=>?_
  by_cases hi:i<b.Needs.length
  ·rw [l2 i hi,hbit i hi,List.getElem?_map,List.getElem?_range' hi];simp
  ·rw [List.getElem?_eq_none (by omega),List.getElem?_eq_none (by simp;omega)]
 have hc:=eachS_count (f:=g53_49) (p:=fun x=>x) l' 0 0 (fun i x _ m=>by unfold g53_49;cases x<;>rfl) (by omega)
 unfold g53
 rw [appL_ok (by rw [List.nil_append,hhl];omega),bsm,List.nil_append,e4,bsm]
 rw [show ((0:Nat):Int)=0 from rfl] at e
 rw [e,bsm,bsm]
 rw [show ((0:Nat):Int)=0 from rfl] at hc
 rw [hc,bsm,count_eq ok (sure_lt b order),hl',List.filter_map,List.length_map,Nat.zero_add]
 rfl
theorem hb52_loop (at_:Nat):∀ (xs:List Int) (i:Nat) (acc:List Int),acc.length+xs.length≤100→eachS (g52_2 (at_:Int)) xs (i:Int) acc=some (acc++if i≤at_ then xs.eraseIdx (at_ - i) else xs)
 | [],i,acc,ha=>by simp [eachS]
 | x::xs,i,acc,ha=>by
  rw [List.length_cons] at ha
  have e:(i:Int)+1=((i+1:Nat):Int):=by omega
  by_cases h:i=at_
  ·subst h
   rw [eachS,g52_2,decide_eq_false (by simp),cond_false,bsm,e,hb52_loop i xs (i+1) acc (by omega),if_neg (by omega),if_pos (Nat.le_refl _),Nat.sub_self]
   rfl
  ·rw [eachS,g52_2,decide_eq_true (by omega),cond_true,appL_ok (by rw [List.length_append,List.length_singleton];omega),bsm,bsm,e,hb52_loop at_ xs (i+1) _ (by rw [List.length_append,List.length_singleton];omega),List.append_assoc]
   congr 2
   by_cases h2:i≤at_
   ·rw [if_pos h2,if_pos (by omega),show at_ - i=(at_ - (i+1))+1 by omega];rfl
   ·rw [if_neg h2,if_neg (by omega)];rfl
theorem hb52 (xs:List Int) (at_:Nat) (h:xs.length≤100):g52 xs (at_:Int)=some (xs.eraseIdx at_):=by
 have:=hb52_loop at_ xs 0 [] (by simpa using h)
 rw [show ((0:Nat):Int)=0 from rfl] at this
 unfold g52
 rw [this,bsm]
 simp
def permI:Nat→List Int→List Int→List (List Int)
 | 0,_,p=>[p]
 | d+1,r,p=>(List.range' 0 (d+1)).flatMap fun (k:Nat)=>permI d (r.eraseIdx k) (p++[(r[k]?).getD 0])
theorem hb12_16 {bits:List Int} (hb:(bits.length:Int)≤9223372036854775807):∀ (d f:Nat) (r p:List Int),r.length=d→d+1≤f→p.length+d≤10→∃ l,whileC (g12_16 bits) f (r,p)=some l∧l∈permI d r p
 | d,0,r,p,hr,hf,hp=>by omega
 | 0,f+1,r,p,hr,hf,hp=>by
  refine ⟨p,?_,by simp [permI]⟩
  rw [whileC,g12_16]
  rw [decide_eq_false (by omega)]
  rfl
 | d+1,f+1,r,p,hr,hf,hp=>by
  obtain ⟨x,ex⟩:=p93 bits hb (p.length:Int)
  obtain ⟨y,ey,y0,y1⟩:=p39 x (many:=(r.length:Int)) (by omega) (by omega)
  obtain ⟨k,rfl⟩:∃ k:Nat,y=(k:Int):=⟨y.toNat,by omega⟩
  have hk:k<r.length:=by omega
  have hx:r[k]?=some ((r[k]?).getD 0):=by rw [List.getElem?_eq_getElem hk];rfl
  obtain ⟨l,el,hl⟩:=hb12_16 hb d f (r.eraseIdx k) (p++[(r[k]?).getD 0]) (by rw [List.length_eraseIdx,if_pos hk];omega) (by omega) (by rw [List.length_append,List.length_singleton];omega)
  refine ⟨l,?_,?_⟩
  ·rw [whileC,g12_16]
   rw [decide_eq_true (by omega),cond_true,ex,bsm,ey,bsm,ixL_nat,hx,bsm,appL_ok (by rw [List.length_append,List.length_singleton];omega),bsm,hb52 r k (by omega),bsm,bsm]
   exact el
  ·rw [permI]
   exact List.mem_flatMap.2 ⟨k,by rw [List.mem_range'_1];omega,hl⟩
def srtB:List (List Nat)→Bool
 | []=>true
 | q::l=>(l.all fun x=>!lexB (castL x) (castL q))&&srtB l
theorem factPerm:((List.range 4).all fun (n:Nat)=>(permI n (castL (List.range n)) []).all fun l=>(quL n n []).any fun q=>decide (l=castL q))=true:=by kernel_rfl
theorem factNodup:((List.range 4).all fun (n:Nat)=>(quL n n []).all fun q=>decide q.Nodup&&((List.range n).all fun (i:Nat)=>decide (i∈q))&&!lexB (castL q) (castL q))=true:=by kernel_rfl
theorem factSrt:((List.range 4).all fun (n:Nat)=>srtB (quL n n []))=true:=by kernel_rfl
theorem srt_mid:∀ (l1:List (List Nat)) (q:List Nat) (l2:List (List Nat)),srtB (l1++q::l2)=true→∀ x,x∈l2→lexB (castL x) (castL q)=false
 | [],q,l2,h,x,hx=>by
  simp only [List.nil_append,srtB,Bool.and_eq_true,List.all_eq_true] at h
  have:=h.1 x hx
  simpa using this
 | y::l1,q,l2,h,x,hx=>by
  simp only [List.cons_append,srtB,Bool.and_eq_true] at h
  exact srt_mid l1 q l2 h.2 x hx
def fQ (b:HarnessBook) (q:List Nat):Int:=lenN b (sureN b q)
theorem best_mid {b:HarnessBook} (ok:HaOk b):∀ (l:List (List Nat)),l≠[]→∃ l1 q l2,l=l1++q::l2∧l.foldl (stepQ b) (-1,[])=(fQ b q,castL q)∧(∀ x,x∈l1→fQ b x<fQ b q)∧∀ x,x∈l2→fQ b x≤fQ b q:=by
 intro l
 generalize hn:l.length=n
 induction n generalizing l with
 | zero=>intro h;exact absurd (List.length_eq_zero_iff.1 hn) h
 | succ n ih=>
  intro h
  obtain ⟨m,x,rfl⟩:∃ m x,l=m++[x]:=⟨l.dropLast,l.getLast h,(List.dropLast_concat_getLast h).symm⟩
  rw [List.length_append,List.length_singleton] at hn
  rw [List.foldl_append]
  simp only [List.foldl_cons,List.foldl_nil]
  by_cases hm:m=[]
  ·subst hm
   have h0:=(len_bd ok (sure_lt b x)).1
   have e0:stepQ b (-1,[]) x=(fQ b x,castL x):=by
    unfold stepQ
    rw [decide_eq_true (show (-1:Int)<lenN b (sureN b x) by omega)]
    rfl
   exact ⟨[],x,[],rfl,e0,(fun y hy=>nomatch hy),(fun y hy=>nomatch hy)⟩
  ·obtain ⟨l1,q,l2,e,ef,a1,a2⟩:=ih m (by omega) hm
   rw [ef]
   unfold stepQ
   simp only
   by_cases hlt:fQ b q<lenN b (sureN b x)
   ·rw [decide_eq_true hlt]
    refine ⟨m,x,[],by simp,rfl,fun y hy=>?_,fun y hy=>by cases hy⟩
    rw [e] at hy
    show fQ b y<lenN b (sureN b x)
    rcases List.mem_append.1 hy with hy | hy
    ·have:=a1 y hy;omega
    ·rcases List.mem_cons.1 hy with rfl | hy
     ·exact hlt
     ·have:=a2 y hy;omega
   ·rw [decide_eq_false hlt]
    refine ⟨l1,q,l2++[x],by rw [e];simp,rfl,a1,fun y hy=>?_⟩
    rcases List.mem_append.1 hy with hy | hy
    ·exact a2 y hy
    ·rw [List.mem_singleton] at hy
     subst hy
     show lenN b (sureN b y)≤fQ b q
     omega
theorem allQ_facts {b:HarnessBook} (ok:HaOk b) {q:List Nat} (hq:q∈allQ b):q.Nodup∧(∀ i,i<b.Needs.length→i∈q)∧lexB (castL q) (castL q)=false:=by
 have h3:=ok.n3
 have h:=all1 factNodup (show b.Needs.length<4 by omega)
 rw [List.all_eq_true] at h
 have:=h q hq
 simp only [Bool.and_eq_true,decide_eq_true_eq,List.all_eq_true,List.mem_range,Bool.not_eq_true'] at this
 exact ⟨this.1.1,this.1.2,this.2⟩
theorem queue_best {b:HarnessBook} (ok:HaOk b):∃ q,q∈allQ b∧(bestQ b).2=castL q∧∀ x,x∈allQ b→fQ b x<fQ b q∨(fQ b x=fQ b q∧lexB (castL x) (castL q)=false):=by
 have h3:=ok.n3
 obtain ⟨q0,l0,e0⟩:=allQ_cons ok
 obtain ⟨l1,q,l2,e,ef,a1,a2⟩:=best_mid ok (allQ b) (by rw [e0];simp)
 have hq:q∈allQ b:=by rw [e];simp
 have hs:srtB (allQ b)=true:=all1 factSrt (show b.Needs.length<4 by omega)
 rw [e] at hs
 refine ⟨q,hq,by unfold bestQ;rw [ef],fun x hx=>?_⟩
 rw [e] at hx
 rcases List.mem_append.1 hx with hx | hx
 ·exact .inl (a1 x hx)
 ·rcases List.mem_cons.1 hx with rfl | hx
  ·exact .inr ⟨rfl,(allQ_facts ok hq).2.2⟩
  ·have h1:=a2 x hx
   by_cases he:fQ b x=fQ b q
   ·exact .inr ⟨he,srt_mid l1 q l2 hs x hx⟩
   ·exact .inl (by omega)
theorem plain12 (b:HarnessBook) (bits:List Int) (hb:(bits.length:Int)≤9223372036854775807):g12 b bits=some true:=by
 unfold g12
 rw [hb35,bsm]
 cases hok:okHa b with
 | false=>exact dressed_bind
 | true=>
  have ok:=haOk_of hok
  have h3:=ok.n3
  obtain ⟨q,hq,eq,hbest⟩:=queue_best ok
  obtain ⟨qlt,qlen⟩:=allQ_mem hq
  obtain ⟨qnd,qall,_⟩:=allQ_facts ok hq
  obtain ⟨l,el,hl⟩:=hb12_16 hb b.Needs.length 1000 (castL (List.range b.Needs.length)) [] (by rw [castL_len,List.length_range]) (by omega) (by simp;omega)
  obtain ⟨x,hx,rfl⟩:∃ x,x∈allQ b∧l=castL x:=by
   have h:=all1 factPerm (show b.Needs.length<4 by omega)
   rw [List.all_eq_true] at h
   have:=h l hl
   rw [List.any_eq_true] at this
   obtain ⟨x,hx,e⟩:=this
   exact ⟨x,hx,of_decide_eq_true e⟩
  obtain ⟨xlt,xlen⟩:=allQ_mem hx
  obtain ⟨xnd,_,_⟩:=allQ_facts ok hx
  simp only [Bool.not_true,cond_false]
  rw [hb36 ok,bsm]
  simp only
  rw [hb33 ok,bsm]
  simp only
  rw [hb15' ok,bsm]
  simp only
  rw [hb40 ok,bsm,el,bsm,eq]
  simp only [Bool.not_true,ne_eq,not_true_eq_false,decide_false,cond_false]
  rw [decide_eq_false (show ¬ ¬ ((castL q).length:Int)=(b.Needs.length:Int) by rw [castL_len,qlen];simp),cond_false,bsm,hb53 ok (fun h=>range_lt) List.nodup_range,bsm]
  have es:((sureL b).length:Int)=lenN b (sureN b (List.range b.Needs.length)):=rfl
  rw [decide_eq_false (show ¬ ¬ ((sureL b).length:Int)=lenN b (sureN b (List.range b.Needs.length)) by rw [es];simp),bsm]
  simp only [cond_false,bindC]
  have h38:=eachC_nx (f:=g12_38 (castL q)) (castL q) 0 (fun i p hj hxi=>by
   rw [Nat.sub_zero] at hxi
   have hi:i<b.Needs.length:=by
    have:=(List.getElem?_eq_some_iff.1 hxi).1
    rw [castL_len,qlen] at this;exact this
   obtain ⟨j,ej,a1,a2⟩:=hbFind (castL q) (i:Int)
   unfold g12_38
   rw [ej,bsm,a2,decide_eq_true (castL_mem.2 (qall i hi))]
   rfl)
  rw [show ((0:Nat):Int)=0 from rfl] at h38
  rw [h38]
  simp only
  rw [hb53 ok qlt qnd,bsm,hb53 ok xlt xnd,bsm]
  have hv:((bif decide (lenN b (sureN b x)<lenN b (sureN b q)) then some true else bif decide (lenN b (sureN b q)=lenN b (sureN b x)) then (g54 (castL x) (castL q)).bind fun r=>some (!r) else some false):Option Bool)=some true:=by
   rcases hbest x hx with h | ⟨h1,h2⟩
   ·have h:lenN b (sureN b x)<lenN b (sureN b q):=h
    rw [decide_eq_true h];rfl
   ·have h1:lenN b (sureN b x)=lenN b (sureN b q):=h1
    rw [decide_eq_false (by omega),decide_eq_true h1.symm,p45 _ _ (by rw [castL_len];omega),bsm,h2];rfl
  rw [hv,bsm]
  simp only [cond_true]
  rw [dressed_bind];rfl
end Go.Proofs.YtjooihelppcfkaaDoor
