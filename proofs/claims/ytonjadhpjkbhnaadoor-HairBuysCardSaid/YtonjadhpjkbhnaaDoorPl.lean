/- Plain laws. Conditions: none. -/
import Derived.Test.YtonjadhpjkbhnaaDoorAr
set_option linter.unusedVariables false
set_option linter.unusedSimpArgs false
namespace Go.Proofs.YtonjadhpjkbhnaaDoor
open Go.Abs Go.Proofs.Th
theorem matched_ok:g25=some true:=by kernel_rfl
end Go.Proofs.YtonjadhpjkbhnaaDoor
namespace Go.Proofs.YtonjadhpjkbhnaaDoor
open Go.Abs Go.Proofs.Th
theorem cs {α:Type} (c:Bool) (a b:α):(bif c then some a else some b)=some (bif c then a else b):=by cases c<;>rfl
theorem bsm {α β:Type} (a:α) (f:α→Option β):(some a).bind f=f a:=rfl
theorem eachS_all {α:Type} {f:Int→α→Bool→Option Bool} {p:α→Bool} (h:∀ i x s,f i x s=some (s&&p x)):∀ (xs:List α) (i:Int) (s:Bool),eachS f xs i s=some (s&&xs.all p)
 | [],i,s=>by simp [eachS]
 | x::xs,i,s=>by rw [eachS,h,bsm,eachS_all h xs];simp [Bool.and_assoc]
def rg (n a b:Int):Bool:=decide (a≤n)&&decide (n≤b)
theorem while_all {α:Type} {f:Bool×Int→Option (Ctl (Bool×Int) Bool)} {p:α→Bool} {xs:List α} (hl:xs.length<900)
  (h0:∀ i,f (false,i)=some (.brk false)) (h1:f (true,(xs.length:Int))=some (.brk true))
  (h:∀ (i:Nat) x,xs[i]?=some x→f (true,(i:Int))=some (.next (p x,((i+1:Nat):Int)))) :
  ∀ (n i:Nat),i+n=xs.length→∀ k,n+2≤k→whileC f k (true,(i:Int))=some ((xs.drop i).all p)
 | 0,i,hi,k,hk=>by
  obtain ⟨k,rfl⟩:∃ k',k=k'+1:=⟨k - 1,by omega⟩
  have:i=xs.length:=by omega
  subst this
  rw [whileC,h1];simp
 | n+1,i,hi,k,hk=>by
  obtain ⟨k,rfl⟩:∃ k',k=k'+1:=⟨k - 1,by omega⟩
  have hlt:i<xs.length:=by omega
  rw [whileC,h i _ (List.getElem?_eq_getElem hlt),bsm,List.drop_eq_getElem_cons hlt,List.all_cons]
  cases hp:p xs[i] with
  | false=>
   obtain ⟨k,rfl⟩:∃ k',k=k'+1:=⟨k - 1,by omega⟩
   simp only;rw [whileC,h0];rfl
  | true=>simp only;rw [while_all hl h0 h1 h n (i+1) (by omega) k (by omega)];simp
theorem wr_nat {i:Nat} (h:i<1000):wr ((i:Int)+1)=((i+1:Nat):Int):=by rw [wr_in (by omega) (by omega)];simp
theorem ixL_nat {α:Type} (xs:List α) (i:Nat):ixL xs (i:Int)=xs[i]?:=by
 unfold ixL
 have:decide (0≤(i:Int))=true:=by simp
 rw [this];simp
def Bd (a x:Int):Prop:=-a≤x∧x≤a
theorem Bd.mul {a b x y:Int} (hx:Bd a x) (hy:Bd b y):Bd (a*b) (x*y):=by
 have h1:x.natAbs≤a.natAbs:=by obtain ⟨h,k⟩:=hx;omega
 have h2:y.natAbs≤b.natAbs:=by obtain ⟨h,k⟩:=hy;omega
 have h3:=Nat.mul_le_mul h1 h2
 rw [← Int.natAbs_mul,← Int.natAbs_mul] at h3
 have ha:0≤a:=by obtain ⟨h,k⟩:=hx;omega
 have hb:0≤b:=by obtain ⟨h,k⟩:=hy;omega
 have:=Int.mul_nonneg ha hb
 constructor<;>omega
theorem Bd.add {a b x y:Int} (hx:Bd a x) (hy:Bd b y):Bd (a+b) (x+y):=by obtain ⟨h,k⟩:=hx;obtain ⟨h',k'⟩:=hy;constructor<;>omega
theorem Bd.sub {a b x y:Int} (hx:Bd a x) (hy:Bd b y):Bd (a+b) (x - y):=by obtain ⟨h,k⟩:=hx;obtain ⟨h',k'⟩:=hy;constructor<;>omega
theorem Bd.mono {a b x:Int} (hx:Bd a x) (h:a≤b):Bd b x:=by obtain ⟨h,k⟩:=hx;constructor<;>omega
theorem rg_iff {n a c:Int}:rg n a c=true↔a≤n∧n≤c:=by simp [rg]
theorem must_t {x:Bool} (h:x=true):must x=some ():=by subst h;rfl
def allI (p:Int→Bool):Nat→Int→Bool
 | 0,_=>true
 | n+1,i=>p i&&allI p n (i+1)
theorem allI_iff {p:Int→Bool}:∀ {n:Nat} {i:Int},allI p n i=true↔∀ j,i≤j→j<i+n→p j=true
 | 0,i=>⟨fun _ j h1 h2=>by omega,fun _=>rfl⟩
 | n+1,i=>by
  rw [allI,Bool.and_eq_true,allI_iff]
  constructor
  ·rintro ⟨h0,h⟩ j h1 h2
   by_cases e:j=i
   ·rw [e];exact h0
   ·exact h j (by omega) (by omega)
  ·intro h
   exact ⟨h i (by omega) (by omega),fun j h1 h2=>h j (by omega) (by omega)⟩
def firstI (p:Int→Bool):Nat→Int→Option Int
 | 0,_=>none
 | n+1,i=>bif p i then some i else firstI p n (i+1)
theorem firstI_none {p:Int→Bool}:∀ {n:Nat} {i:Int},firstI p n i=none↔∀ j,i≤j→j<i+n→p j=false
 | 0,i=>⟨fun _ j h1 h2=>by omega,fun _=>rfl⟩
 | n+1,i=>by
  rw [firstI]
  cases h0:p i with
  | true=>exact ⟨fun h=>by (cases h),fun h=>by have:=h i (by omega) (by omega);rw [h0] at this;cases this⟩
  | false=>
   rw [cond_false,firstI_none]
   constructor
   ·intro h j h1 h2
    by_cases e:j=i
    ·rw [e];exact h0
    ·exact h j (by omega) (by omega)
   ·intro h j h1 h2;exact h j (by omega) (by omega)
theorem firstI_some {p:Int→Bool}:∀ {n:Nat} {i j:Int},firstI p n i=some j→i≤j∧j<i+n∧p j=true∧∀ k,i≤k→k<j→p k=false
 | 0,i,j,h=>by cases h
 | n+1,i,j,h=>by
  rw [firstI] at h
  cases h0:p i with
  | true=>rw [h0] at h;cases h;exact ⟨by omega,by omega,h0,fun k h1 h2=>by omega⟩
  | false=>
   rw [h0,cond_false] at h
   obtain ⟨h1,h2,h3,h4⟩:=firstI_some h
   refine ⟨by omega,by omega,h3,fun k hk hk'=>?_⟩
   by_cases e:k=i
   ·rw [e];exact h0
   ·exact h4 k (by omega) hk'
theorem firstI_congr {p q:Int→Bool}:∀ {n:Nat} {i:Int},(∀ j,i≤j→j<i+n→p j=q j)→firstI p n i=firstI q n i
 | 0,i,h=>rfl
 | n+1,i,h=>by
  rw [firstI,firstI,h i (by omega) (by omega),firstI_congr (fun j h1 h2=>h j (by omega) (by omega))]
theorem firstI_shift {p:Int→Bool}:∀ {n:Nat} {i d:Int},firstI p n (i+d)=(firstI (fun j=>p (j+d)) n i).map (·+d)
 | 0,i,d=>rfl
 | n+1,i,d=>by
  rw [firstI,firstI,show i+d+1=i+1+d by omega,firstI_shift]
  cases p (i+d)<;>rfl
theorem forC_first {S R:Type} {f:Int→S→Option (Ctl S R)} (I:S→Prop) (p:Int→Bool) (r:Int→R):∀ (n:Nat) (i:Int) (s:S),I s →
  (∀ j s,i≤j→j<i+n→I s→∃ s',I s'∧f j s=some (bif p j then .brk (r j) else .next s')) →
  ∃ s',I s'∧forC f n i s=some (match firstI p n i with | some j=>.brk (r j) | none=>.next s')
 | 0,i,s,hs,h=>⟨s,hs,rfl⟩
 | n+1,i,s,hs,h=>by
  obtain ⟨s1,h1,e1⟩:=h i s (by omega) (by omega) hs
  rw [forC,e1,bsm,firstI]
  cases p i with
  | true=>exact ⟨s1,h1,rfl⟩
  | false=>exact forC_first I p r n (i+1) s1 h1 (fun j s k1 k2=>h j s (by omega) (by omega))
theorem forC_firstU {R:Type} {f:Int→Unit→Option (Ctl Unit R)} (p:Int→Bool) (r:Int→R) (n:Nat) (i:Int) (h:∀ j,i≤j→j<i+n→f j ()=some (bif p j then .brk (r j) else .next ())) :
  forC f n i ()=some (match firstI p n i with | some j=>.brk (r j) | none=>.next ()):=by
 obtain ⟨s,_,e⟩:=forC_first (fun _=>True) p r n i () trivial (fun j s h1 h2 _=>⟨(),trivial,h j h1 h2⟩)
 exact e
theorem allI_not (p:Int→Bool):∀ (n:Nat) (i:Int),allI (fun j=>!p j) n i=(firstI p n i).isNone
 | 0,i=>rfl
 | n+1,i=>by
  rw [allI,firstI,allI_not p n]
  cases p i<;>rfl
theorem roomB_ok {n b:Nat} (h:n*b≤140737488355328):roomB n b=true:=Nat.ble_eq_true_of_le h
theorem appL_ok {α:Type} {sz:Nat} {l m:List α} (h:(l++m).length*sz≤140737488355328):appL sz l m=some (l++m):=by
 unfold appL
 rw [roomB_ok h];rfl
theorem slcL_all {α:Type} (l:List α):slcL l 0 (l.length:Int)=some l:=by
 unfold slcL
 have:(decide ((0:Int)≤0)&&(decide ((0:Int)≤(l.length:Int))&&decide ((l.length:Int)≤(l.length:Int))))=true:=by simp
 rw [this];simp
theorem forS_inv {S:Type} {f:Int→S→Option S} (I:Int→S→Prop):∀ (n:Nat) (i:Int) (s:S),I i s→(∀ j s,i≤j→j<i+n→I j s→∃ s',f j s=some s'∧I (j+1) s')→∃ s',forS f n i s=some s'∧I (i+n) s'
 | 0,i,s,hs,h=>⟨s,rfl,by simpa using hs⟩
 | n+1,i,s,hs,h=>by
  obtain ⟨s1,e1,h1⟩:=h i s (by omega) (by omega) hs
  obtain ⟨s2,e2,h2⟩:=forS_inv I n (i+1) s1 h1 (fun j s k1 k2=>h j s (by omega) (by omega))
  refine ⟨s2,by rw [forS,e1,bsm,e2],?_⟩
  rw [show i+((n+1:Nat):Int)=i+1+(n:Int) by omega]
  exact h2
theorem ixN_nat {n i:Nat} (h:i<n):ixN n (i:Int)=some i:=by
 unfold ixN
 have:(decide (0≤(i:Int))&&Nat.blt (i:Int).toNat n)=true:=by simp [h,Nat.blt_eq]
 rw [this];simp
theorem mfd_append {K W:Type} (q:K→K→Bool) (k k':K) (w:W):∀ (m:List (K×W)) (i:Nat),(mfd q k (m++[(k',w)]) i).map (·.2)=match (mfd q k m i).map (·.2) with
  | some v=>some v
  | none=>bif q k k' then some w else none
 | [],i=>by
  simp only [List.nil_append,mfd]
  cases q k k'<;>rfl
 | p::m,i=>by
  simp only [List.cons_append,mfd]
  cases q k p.1 with
  | true=>rfl
  | false=>simp only [cond_false];exact mfd_append q k k' w m (i+1)
theorem mget_append {K W:Type} (q:K→K→Bool) (m:List (K×W)) (k k':K) (w:W):mget q (m++[(k',w)]) k=match mget q m k with
  | some v=>some v
  | none=>bif q k k' then some w else none:=mfd_append q k k' w m 0
end Go.Proofs.YtonjadhpjkbhnaaDoor
namespace Go.Proofs.YtonjadhpjkbhnaaDoor
open Go.Abs Go.Proofs.Th
def okSpan (s:Span) (a c w:Int):Bool:=decide (a≤s.Low)&&decide (s.Low≤s.High)&&decide (s.High≤c)&&decide (wr (s.High - s.Low)≤w)
def okHank (x:HairHank):Bool:=okSpan x.Weight 1 60 4&&okSpan x.Shade 0 20 2
def okHorse (x:HairHorse):Bool:=rg x.Mane 1 30&&rg x.Tail 1 30&&rg x.Shade 0 25
def okH (b:HairBook):Bool:=decide ((b.Hanks.length:Int)≤4)&&decide ((b.Horses.length:Int)≤3)&&rg b.Dark 0 4&&rg b.Near 0 3&&rg b.Match 0 3&&b.Hanks.all okHank&&b.Horses.all okHorse
theorem p57 (n a c:Int):g57 n a c=some (rg n a c):=rfl
theorem p63 (s:Span) (a c w:Int):g63 s a c w=some (okSpan s a c w):=rfl
theorem p17_15 (i:Int) (x:HairHank) (s:Bool):g17_15 i x s=some (s&&okHank x):=by
 simp only [g17_15,p63,bsm,cs,okHank,Bool.cond_false_right,Bool.and_assoc]
theorem p17_31 (i:Int) (x:HairHorse) (s:Bool):g17_31 i x s=some (s&&okHorse x):=by
 simp only [g17_31,p57,bsm,cs,okHorse,Bool.cond_false_right,Bool.and_assoc]
theorem p17 (b:HairBook):g17 b=some (bif okH b then 0 else 60):=by
 unfold g17
 simp only [p57,bsm,cs,Bool.cond_false_right,eachS_all p17_15,eachS_all p17_31]
 have:∀ x:Bool,(bif !x then (60:Int) else 0)=bif x then 0 else 60:=by intro x;cases x<;>rfl
 rw [this]
 simp only [okH,Bool.and_assoc]
structure HankOk (x:HairHank):Prop where
 w:1≤x.Weight.Low∧x.Weight.Low≤x.Weight.High∧x.Weight.High≤60
 s:0≤x.Shade.Low∧x.Shade.Low≤x.Shade.High∧x.Shade.High≤20
structure OkH (b:HairBook):Prop where
 l4:b.Hanks.length≤5
 l3:b.Horses.length≤3
 dark:0≤b.Dark∧b.Dark≤4
 near:0≤b.Near∧b.Near≤3
 mat:0≤b.Match∧b.Match≤3
 hanks:∀ x,x∈b.Hanks→HankOk x
 horses:∀ x,x∈b.Horses→(1≤x.Mane∧x.Mane≤30)∧(1≤x.Tail∧x.Tail≤30)∧0≤x.Shade∧x.Shade≤25
theorem okH_of {b:HairBook} (h:okH b=true):OkH b:=by
 simp only [okH,Bool.and_eq_true,rg_iff,decide_eq_true_eq,List.all_eq_true] at h
 obtain ⟨⟨⟨⟨⟨⟨h1,h2⟩,h3⟩,h4⟩,h5⟩,h6⟩,h7⟩:=h
 refine ⟨by omega,by omega,h3,h4,h5,fun x hx=>?_,fun x hx=>?_⟩
 ·have:=h6 x hx
  simp only [okHank,okSpan,Bool.and_eq_true,decide_eq_true_eq] at this
  exact ⟨by omega,by omega⟩
 ·have:=h7 x hx
  simp only [okHorse,Bool.and_eq_true,rg_iff] at this
  omega
theorem okH_l4 {b:HairBook} (h:okH b=true):b.Hanks.length≤4:=by
 simp only [okH,Bool.and_eq_true,decide_eq_true_eq] at h
 omega
theorem q84_iff (x y:Hair_dye):q84 x y=true↔x=y:=by
 cases x;cases y
 simp [q84]
def shOf (b:HairBook) (h n:Int):Span:=match b.Hanks[h.toNat]? with
 | some x=>⟨x.Shade.Low+n,x.Shade.High+n⟩
 | none=>⟨0,0⟩
def ShK (b:HairBook) (k j:Int) (m:List (Hair_dye×Span)):Prop:=∀ h n,mget q84 m ⟨h,n⟩=bif (decide (0≤h)&&decide (h<k)&&decide (0≤n)&&decide (n≤b.Dark))||(decide (h=k)&&decide (0≤n)&&decide (n<j)) then some (shOf b h n) else none
theorem eachS_inv {α S:Type} {f:Int→α→S→Option S} (I:Nat→S→Prop):∀ (xs:List α) (i:Nat) (s:S),I i s→(∀ j x s,i≤j→xs[j - i]?=some x→I j s→∃ s',f (j:Int) x s=some s'∧I (j+1) s')→∃ s',eachS f xs (i:Int) s=some s'∧I (i+xs.length) s'
 | [],i,s,hs,h=>⟨s,rfl,by simpa using hs⟩
 | x::xs,i,s,hs,h=>by
  obtain ⟨s1,e1,h1⟩:=h i x s (Nat.le_refl _) (by simp) hs
  obtain ⟨s2,e2,h2⟩:=eachS_inv I xs (i+1) s1 h1 (fun j y s hj hy hI=>h j y s (by omega) (by
   have:j - i=(j - (i+1))+1:=by omega
   rw [this,List.getElem?_cons_succ];exact hy) hI)
  refine ⟨s2,?_,?_⟩
  ·rw [eachS,e1,bsm,show (i:Int)+1=((i+1:Nat):Int) by omega,e2]
  ·rw [List.length_cons,show i+(xs.length+1)=i+1+xs.length by omega];exact h2
theorem p80_8 {b:HairBook} (ok:OkH b) {k:Nat} {x:HairHank} (hx:b.Hanks[k]?=some x) {j:Int} (h0:0≤j) (h1:j≤b.Dark) {m:List (Hair_dye×Span)} (hm:ShK b k j m):∃ m',g80_8 (k:Int) x j m=some m'∧ShK b k (j+1) m':=by
 have hd:=ok.dark
 have hs:=(ok.hanks x (List.mem_of_getElem? hx)).s
 have hnone:mget q84 m ⟨(k:Int),j⟩=none:=by
  rw [hm]
  have:((decide (0≤(k:Int))&&decide ((k:Int)<(k:Int))&&decide (0≤j)&&decide (j≤b.Dark))||(decide ((k:Int)=(k:Int))&&decide (0≤j)&&decide (j<j)))=false:=by simp
  rw [this];rfl
 have hsh:shOf b (k:Int) j=⟨x.Shade.Low+j,x.Shade.High+j⟩:=by
  unfold shOf
  rw [Int.toNat_natCast,hx]
 refine ⟨m++[(⟨(k:Int),j⟩,⟨x.Shade.Low+j,x.Shade.High+j⟩)],?_,fun h n=>?_⟩
 ·unfold g80_8 mput
  rw [hnone,wr_in (by omega) (by omega),wr_in (by omega) (by omega)]
  rfl
 ·rw [mget_append]
  by_cases he:h=(k:Int)∧n=j
  ·obtain ⟨rfl,rfl⟩:=he
   rw [hnone]
   have hq:q84 ⟨(k:Int),n⟩ ⟨(k:Int),n⟩=true:=(q84_iff _ _).2 rfl
   have ht:((decide (0≤(k:Int))&&decide ((k:Int)<(k:Int))&&decide (0≤n)&&decide (n≤b.Dark))||(decide ((k:Int)=(k:Int))&&decide (0≤n)&&decide (n<n+1)))=true:=by
    simp;omega
   rw [ht,hsh]
   simp only [hq,cond_true]
  ·have hq:q84 ⟨h,n⟩ ⟨(k:Int),j⟩=false:=by
    cases hc:q84 ⟨h,n⟩ ⟨(k:Int),j⟩ with
    | false=>rfl
    | true=>
     have:=(q84_iff _ _).1 hc
     injection this with e1 e2
     exact absurd ⟨e1,e2⟩ he
   rw [hm,hq]
   have:(decide (h=(k:Int))&&decide (0≤n)&&decide (n<j))=(decide (h=(k:Int))&&decide (0≤n)&&decide (n<j+1)):=by
    rw [Bool.eq_iff_iff]
    simp only [Bool.and_eq_true,decide_eq_true_eq]
    constructor
    ·rintro ⟨⟨a1,a2⟩,a3⟩;exact ⟨⟨a1,a2⟩,by omega⟩
    ·rintro ⟨⟨a1,a2⟩,a3⟩
     refine ⟨⟨a1,a2⟩,?_⟩
     by_cases e:n=j
     ·exact absurd ⟨a1,e⟩ he
     ·omega
   rw [this]
   cases (decide (0≤h)&&decide (h<(k:Int))&&decide (0≤n)&&decide (n≤b.Dark))||(decide (h=(k:Int))&&decide (0≤n)&&decide (n<j+1))<;>rfl
def ShOk (b:HairBook) (m:List (Hair_dye×Span)):Prop:=∀ (h n:Int),0≤h→h<b.Hanks.length→0≤n→n≤b.Dark→mget q84 m ⟨h,n⟩=some (shOf b h n)
theorem p80 {b:HairBook} (ok:OkH b):∃ m,g80 b=some (b,m)∧ShOk b m:=by
 have hd:=ok.dark
 have e:wr (b.Dark+1)=b.Dark+1:=wr_in (by omega) (by omega)
 obtain ⟨m,em,hm⟩:=eachS_inv (f:=g80_3 b) (fun k m=>ShK b (k:Int) 0 m) b.Hanks 0 [] (fun h n=>by
  have:((decide (0≤h)&&decide (h<((0:Nat):Int))&&decide (0≤n)&&decide (n≤b.Dark))||(decide (h=((0:Nat):Int))&&decide (0≤n)&&decide (n<0)))=false:=by
   rw [Bool.eq_false_iff]
   intro hc
   simp only [Bool.or_eq_true,Bool.and_eq_true,decide_eq_true_eq] at hc
   omega
  rw [this];rfl) (fun k x m hk hx hm=>by
  rw [Nat.sub_zero] at hx
  obtain ⟨m',e',h'⟩:=forS_inv (f:=g80_8 (k:Int) x) (fun j m=>ShK b (k:Int) j m) (b.Dark+1 - 0).toNat 0 m hm (fun j s j1 j2 hs=>p80_8 ok hx j1 (by omega) hs)
  refine ⟨m',by unfold g80_3;rw [e,e',bsm],fun h n=>?_⟩
  rw [h']
  congr 1
  rw [Bool.eq_iff_iff]
  simp only [Bool.or_eq_true,Bool.and_eq_true,decide_eq_true_eq]
  omega)
 refine ⟨m,?_,fun h n h1 h2 h3 h4=>?_⟩
 ·unfold g80
  rw [show ((0:Nat):Int)=0 from rfl] at em
  rw [em,bsm]
 ·rw [hm]
  have:((decide (0≤h)&&decide (h<((0+b.Hanks.length:Nat):Int))&&decide (0≤n)&&decide (n≤b.Dark))||(decide (h=((0+b.Hanks.length:Nat):Int))&&decide (0≤n)&&decide (n<0)))=true:=by
   simp only [Bool.or_eq_true,Bool.and_eq_true,decide_eq_true_eq]
   omega
  rw [this];rfl
def nearB (b:HairBook) (want:Int) (s:Span):Bool:=decide (s.High - want≤b.Near)&&decide (want - s.Low≤b.Near)
def mB (b:HairBook) (want mane tail m t:Int):Bool:=nearB b want (shOf b mane m)&&nearB b want (shOf b tail t) &&
 bif decide (mane=tail) then decide (-b.Match≤m - t)&&decide (m - t≤b.Match) else decide ((shOf b mane m).High - (shOf b tail t).Low≤b.Match)&&decide ((shOf b tail t).High - (shOf b mane m).Low≤b.Match)
theorem sh_bd {b:HairBook} (ok:OkH b) {h n:Int} (h1:0≤h) (h2:h<b.Hanks.length) (h3:0≤n) (h4:n≤b.Dark):0≤(shOf b h n).Low∧(shOf b h n).Low≤(shOf b h n).High∧(shOf b h n).High≤24:=by
 have hd:=ok.dark
 have hlt:h.toNat<b.Hanks.length:=by omega
 have hs:=(ok.hanks _ (List.getElem_mem hlt)).s
 unfold shOf
 rw [List.getElem?_eq_getElem hlt]
 simp only
 omega
theorem p100 {b:HairBook} (ok:OkH b) {mf:List (Hair_dye×Span)} (hmf:ShOk b mf) {horse:Int} {p:HairHorse} (hp:ixL b.Horses horse=some p) (hw:0≤p.Shade∧p.Shade≤25) {mane tail m t:Int} (a1:0≤mane) (a2:mane<b.Hanks.length) (b1:0≤tail) (b2:tail<b.Hanks.length)
  (m1:0≤m) (m2:m≤b.Dark) (t1:0≤t) (t2:t≤b.Dark):g100 b mf horse ⟨mane,m⟩ ⟨tail,t⟩=some (mB b p.Shade mane tail m t):=by
 have hd:=ok.dark
 have hn:=ok.near
 have hma:=ok.mat
 have hs:=sh_bd ok a1 a2 m1 m2
 have ht:=sh_bd ok b1 b2 t1 t2
 unfold g100
 rw [hp,bsm,hmf mane m a1 a2 m1 m2,hmf tail t b1 b2 t1 t2]
 simp only [Option.getD_some]
 generalize hS:shOf b mane m=s at hs
 generalize hT:shOf b tail t=u at ht
 have g3:∀ a x y z,g113 a [x,y,z]=some (max (max (max a x) y) z):=fun _ _ _ _=>rfl
 have g1:∀ a x,g113 a [x]=some (max a x):=fun _ _=>rfl
 rw [wr_in (show -9223372036854775808≤s.High - p.Shade by omega) (by omega),wr_in (show -9223372036854775808≤p.Shade - s.Low by omega) (by omega),wr_in (show -9223372036854775808≤u.High - p.Shade by omega) (by omega),wr_in (show -9223372036854775808≤p.Shade - u.Low by omega) (by omega),g3,bsm,
  wr_in (show -9223372036854775808≤m - t by omega) (by omega),wr_in (show -9223372036854775808≤-b.Match by omega) (by omega),wr_in (show -9223372036854775808≤s.High - u.Low by omega) (by omega),wr_in (show -9223372036854775808≤u.High - s.Low by omega) (by omega),g1,p57]
 simp only [bsm,cs]
 unfold mB nearB
 rw [hS,hT]
 by_cases hnear:b.Near<max (max (max (s.High - p.Shade) (p.Shade - s.Low)) (u.High - p.Shade)) (p.Shade - u.Low)
 ·rw [decide_eq_true hnear,cond_true]
  have:(decide (s.High - p.Shade≤b.Near)&&decide (p.Shade - s.Low≤b.Near)&&(decide (u.High - p.Shade≤b.Near)&&decide (p.Shade - u.Low≤b.Near)))=false:=by
   rw [Bool.eq_false_iff]
   intro hc
   simp only [Bool.and_eq_true,decide_eq_true_eq] at hc
   omega
  rw [this];rfl
 ·rw [decide_eq_false hnear,cond_false]
  have:(decide (s.High - p.Shade≤b.Near)&&decide (p.Shade - s.Low≤b.Near)&&(decide (u.High - p.Shade≤b.Near)&&decide (p.Shade - u.Low≤b.Near)))=true:=by
   simp only [Bool.and_eq_true,decide_eq_true_eq]
   omega
  rw [this,Bool.true_and]
  by_cases he:mane=tail
  ·rw [decide_eq_true he]
   simp only [cond_true]
   by_cases hmt:m=t
   ·subst he;subst hmt
    have e1:(false != ((mane==mane)&&((m==m)&&true)))=true:=by simp
    have e2:(decide (-b.Match≤m - m)&&decide (m - m≤b.Match))=true:=by
     simp only [Bool.and_eq_true,decide_eq_true_eq];omega
    rw [e1,e2];rfl
   ·have e1:(false != ((mane==tail)&&((m==t)&&true)))=false:=by
     have:(m==t)=false:=by simpa using hmt
     rw [this];simp
    rw [e1];rfl
  ·rw [decide_eq_false he]
   simp only [cond_false]
   congr 1
   rw [Bool.eq_iff_iff]
   simp only [Bool.and_eq_true,decide_eq_true_eq]
   omega
def dyesF (b:HairBook) (want mane tail:Int):Option (Int×Int):=(firstI (fun m=>(firstI (fun t=>mB b want mane tail m t) (b.Dark+1).toNat 0).isSome) (b.Dark+1).toNat 0).map fun m=>(m,(firstI (fun t=>mB b want mane tail m t) (b.Dark+1).toNat 0).getD 0)
theorem p59 {b:HairBook} (ok:OkH b) {mf:List (Hair_dye×Span)} (hmf:ShOk b mf) {horse:Int} {p:HairHorse} (hp:ixL b.Horses horse=some p) (hw:0≤p.Shade∧p.Shade≤25) {mane tail:Int} (a1:0≤mane) (a2:mane<b.Hanks.length) (b1:0≤tail) (b2:tail<b.Hanks.length) :
  g59 b mf horse mane tail=some (match dyesF b p.Shade mane tail with | some x=>(⟨mane,x.1⟩,⟨tail,x.2⟩,true) | none=>(⟨0,0⟩,⟨0,0⟩,false)):=by
 have hd:=ok.dark
 have e:wr (b.Dark+1)=b.Dark+1:=wr_in (by omega) (by omega)
 unfold g59
 rw [e,Int.sub_zero]
 have:=forC_firstU (f:=g59_2 b mf horse mane tail) (fun m=>(firstI (fun t=>mB b p.Shade mane tail m t) (b.Dark+1).toNat 0).isSome) (fun m=>((⟨mane,m⟩:Hair_dye),(⟨tail,(firstI (fun t=>mB b p.Shade mane tail m t) (b.Dark+1).toNat 0).getD 0⟩:Hair_dye),true)) (b.Dark+1).toNat 0 (fun m m1 m2=>by
  have:=forC_firstU (f:=g59_6 b mf horse mane tail m) (fun t=>mB b p.Shade mane tail m t) (fun t=>.brk ((⟨mane,m⟩:Hair_dye),(⟨tail,t⟩:Hair_dye),true)) (b.Dark+1).toNat 0 (fun t t1 t2=>by
   unfold g59_6
   rw [p100 ok hmf hp hw a1 a2 b1 b2 m1 (by omega) t1 (by omega),bsm,cs])
  unfold g59_2
  rw [e,Int.sub_zero,this]
  cases firstI (fun t=>mB b p.Shade mane tail m t) (b.Dark+1).toNat 0<;>rfl)
 rw [this]
 unfold dyesF
 cases firstI (fun m=>(firstI (fun t=>mB b p.Shade mane tail m t) (b.Dark+1).toNat 0).isSome) (b.Dark+1).toNat 0<;>rfl
end Go.Proofs.YtonjadhpjkbhnaaDoor
namespace Go.Proofs.YtonjadhpjkbhnaaDoor
open Go.Abs Go.Proofs.Th
theorem p50 (n a c:Int):g50 n a c=some (rg n a c):=rfl
end Go.Proofs.YtonjadhpjkbhnaaDoor
namespace Go.Proofs.YtonjadhpjkbhnaaDoor
open Go.Abs Go.Proofs.Th
def partN (b:HairBook) (v:Nat):Int:=match b.Horses[v / 2]? with
 | some h=>bif decide (v % 2=0) then h.Mane else h.Tail
 | none=>0
def cutS (b:HairBook):List Int→Nat→Int→Int
 | [],_,_=>0
 | p::ps,v,k=>(bif decide (p=k) then partN b v else 0)+cutS b ps (v+1) k
theorem partN_bd {b:HairBook} (ok:OkH b) (v:Nat):0≤partN b v∧partN b v≤30:=by
 unfold partN
 cases hh:b.Horses[v / 2]? with
 | none=>simp
 | some h=>
  obtain ⟨h1,h2,_⟩:=ok.horses h (List.mem_of_getElem? hh)
  simp only
  cases decide (v % 2=0)<;>simp only [cond_true,cond_false]<;>omega
theorem cutS_bd {b:HairBook} (ok:OkH b) (k:Int):∀ (ps:List Int) (v:Nat),0≤cutS b ps v k∧cutS b ps v k≤30*ps.length
 | [],v=>by simp [cutS]
 | p::ps,v=>by
  have h1:=partN_bd ok v
  have h2:=cutS_bd ok k ps (v+1)
  rw [cutS,List.length_cons]
  cases decide (p=k)<;>simp only [cond_true,cond_false]<;>omega
def planB (b:HairBook) (plan:List Int):Bool:=decide ((plan.length:Int)=2*(b.Horses.length:Int))&&plan.all fun n=>rg n 0 ((b.Hanks.length:Int) - 1)
structure PlanOk (b:HairBook) (plan:List Int):Prop where
 len:plan.length=2*b.Horses.length
 rng:∀ n,n∈plan→0≤n∧n<b.Hanks.length
theorem plan_of {b:HairBook} {plan:List Int} (h:planB b plan=true):PlanOk b plan:=by
 simp only [planB,Bool.and_eq_true,decide_eq_true_eq,List.all_eq_true,rg_iff] at h
 exact ⟨by omega,fun n hn=>by have:=h.2 n hn;omega⟩
theorem tdiv_nat (v:Nat):(v:Int).tdiv 2=((v / 2:Nat):Int):=rfl
theorem tmod_nat (v:Nat):(v:Int).tmod 2=((v % 2:Nat):Int):=rfl
theorem aset_get (w:Nat→Int) (j k:Nat) (x:Int):aset w j x k=if k=j then x else w k:=by
 unfold aset
 by_cases h:k=j
 ·subst h;simp
 ·rw [if_neg h]
  cases hb:Nat.beq k j with
  | true=>exact absurd (Nat.eq_of_beq_eq_true hb) h
  | false=>rfl
def fitK (b:HairBook) (plan:List Int):Bool:=b.Hanks.zipIdx.all fun y=>!decide (y.1.Weight.Low<cutS b plan 0 (y.2:Int))
def dyeK (b:HairBook) (plan:List Int):Bool:=b.Horses.zipIdx.all fun y=>(dyesF b y.1.Shade ((plan[2*y.2]?).getD 0) ((plan[2*y.2+1]?).getD 0)).isSome
def worksB (b:HairBook) (plan:List Int):Bool:=fitK b plan&&dyeK b plan
theorem eachC_zip {α R:Type} {f:Int→α→Unit→Option (Ctl Unit R)} (p:α×Nat→Bool) (r:R):∀ (xs:List α) (i:Nat),(∀ (j:Nat) x,i≤j→xs[j - i]?=some x→f (j:Int) x ()=some (bif p (x,j) then .next () else .brk r))→eachC f xs (i:Int) ()=some (bif (xs.zipIdx i).all p then .next () else .brk r)
 | [],i,h=>rfl
 | x::xs,i,h=>by
  rw [eachC,h i x (Nat.le_refl _) (by simp),bsm,List.zipIdx_cons,List.all_cons]
  cases p (x,i) with
  | false=>rfl
  | true=>
   simp only [cond_true,Bool.true_and]
   rw [show (i:Int)+1=((i+1:Nat):Int) by omega]
   exact eachC_zip p r xs (i+1) (fun j y hj hy=>h j y (by omega) (by
    have:j - i=(j - (i+1))+1:=by omega
    rw [this,List.getElem?_cons_succ];exact hy))
end Go.Proofs.YtonjadhpjkbhnaaDoor
namespace Go.Proofs.YtonjadhpjkbhnaaDoor
open Go Go.Abs Go.Proofs.Th
theorem cutS_snoc (b:HairBook) (k p:Int):∀ (ps:List Int) (v:Nat),cutS b (ps++[p]) v k=cutS b ps v k+bif decide (p=k) then partN b (v+ps.length) else 0
 | [],v=>by simp [cutS]
 | q::ps,v=>by
  rw [List.cons_append,cutS,cutS_snoc b k p ps (v+1),cutS,List.length_cons,show v+1+ps.length=v+(ps.length+1) by omega]
  omega
end Go.Proofs.YtonjadhpjkbhnaaDoor
namespace Go.Proofs.YtonjadhpjkbhnaaDoor
open Go.Abs Go.Proofs.Th
def runY {A S:Type} (c:A→S→Option (S×Bool)):List A→S→Option (S×Bool)
 | [],s=>some (s,true)
 | a::l,s=>(c a s).bind fun r=>bif r.2 then runY c l r.1 else some (r.1,false)
theorem runY_append {A S:Type} (c:A→S→Option (S×Bool)):∀ (l m:List A) (s:S),runY c (l++m) s=(runY c l s).bind fun r=>bif r.2 then runY c m r.1 else some (r.1,false)
 | [],m,s=>by simp [runY]
 | a::l,m,s=>by
  rw [List.cons_append,runY,runY]
  cases c a s with
  | none=>rfl
  | some r=>
   obtain ⟨s',go⟩:=r
   cases go with
   | false=>rfl
   | true=>exact runY_append c l m s'
theorem runY_fold {A S X:Type} {B:A→S→Option (Ctl S X)} (g:S→A→S):∀ (l:List A) (s:S),(∀ a s,a∈l→B a s=some (.next (g s a)))→runY (fun a s=>rndC B a s) l (.next s)=some (.next (l.foldl g s),true)
 | [],s,h=>rfl
 | a::l,s,h=>by
  rw [runY]
  simp only [rndC,h a s (by simp),bsm,isNext,cond_true,List.foldl_cons]
  exact runY_fold g l _ (fun x s hx=>h x s (by simp [hx]))
theorem runY_stop {A S X:Type} {B:A→S→Option (Ctl S X)} (r:X) (l:List A) (s:S) (h:∀ a s,B a s=some (.brk r)):runY (fun a s=>rndC B a s) l (.next s)=some (match l with | []=>(.next s,true) | _::_=>(.brk r,false)):=by
 cases l with
 | nil=>rfl
 | cons a l=>
  rw [runY]
  simp only [rndC,h a s,bsm,isNext]
  rfl
def tr (K:Nat) (ok:List Int→Bool):Nat→List Int→List (List Int)
 | 0,p=>bif ok p then [p] else []
 | n+1,p=>bif ok p then (List.range' 0 K).flatMap fun (k:Nat)=>tr K ok n (p++[(k:Int)]) else []
def allp (K:Nat):Nat→List Int→List (List Int)
 | 0,p=>[p]
 | n+1,p=>(List.range' 0 K).flatMap fun (k:Nat)=>allp K n (p++[(k:Int)])
theorem mem_allp {K:Nat} {q:List Int}:∀ {n:Nat} {p:List Int},q∈allp K n p↔∃ l,q=p++l∧l.length=n∧∀ x,x∈l→0≤x∧x<K
 | 0,p=>by
  rw [allp,List.mem_singleton]
  constructor
  ·rintro rfl;exact ⟨[],by simp,rfl,by simp⟩
  ·rintro ⟨l,h1,h2,h3⟩
   rw [List.length_eq_zero_iff.1 h2] at h1;simpa using h1
 | n+1,p=>by
  rw [allp,List.mem_flatMap]
  constructor
  ·rintro ⟨k,hk,hq⟩
   rw [List.mem_range'_1] at hk
   obtain ⟨l,h1,h2,h3⟩:=mem_allp.1 hq
   refine ⟨(k:Int)::l,by rw [h1];simp,by simp [h2],fun x hx=>?_⟩
   rcases List.mem_cons.1 hx with rfl | hx
   ·omega
   ·exact h3 x hx
  ·rintro ⟨l,h1,h2,h3⟩
   cases l with
   | nil=>simp at h2
   | cons x l=>
    have hx:=h3 x (by simp)
    refine ⟨x.toNat,by rw [List.mem_range'_1];omega,mem_allp.2 ⟨l,?_,by simpa using h2,fun y hy=>h3 y (by simp [hy])⟩⟩
    rw [show ((x.toNat:Nat):Int)=x by omega,h1];simp
theorem allp_pre {K:Nat} {ok:List Int→Bool} (hok:∀ p k,ok (p++[k])=true→ok p=true) {q:List Int}:∀ {n:Nat} {p:List Int},q∈allp K n p→ok q=true→ok p=true
 | 0,p,h,hq=>by
  rw [allp,List.mem_singleton] at h
  rw [← h];exact hq
 | n+1,p,h,hq=>by
  rw [allp,List.mem_flatMap] at h
  obtain ⟨k,_,h⟩:=h
  exact hok _ _ (allp_pre hok h hq)
theorem tr_eq {K:Nat} {ok:List Int→Bool} (hok:∀ p k,ok (p++[k])=true→ok p=true):∀ (n:Nat) (p:List Int),tr K ok n p=(allp K n p).filter ok
 | 0,p=>by
  rw [tr,allp,List.filter_cons]
  cases ok p<;>rfl
 | n+1,p=>by
  rw [tr]
  cases hp:ok p with
  | true=>
   rw [cond_true,allp,List.filter_flatMap]
   congr 1
   funext k
   exact tr_eq hok n _
  | false=>
   rw [cond_false,Eq.comm,List.filter_eq_nil_iff]
   intro q hq hc
   have:=allp_pre hok hq hc
   rw [hp] at this;cases this
theorem eachC_run {α A S:Type} {f:Int→α→S→Option (Ctl S (Bool×S))} (c:A→S→Option (S×Bool)) (L:Nat→List A):∀ (xs:List α) (i:Nat) (s:S),(∀ (j:Nat) x s,i≤j→xs[j - i]?=some x→f (j:Int) x s=(runY c (L j) s).map fun r=>bif r.2 then .next r.1 else .brk (false,r.1)) →
  eachC f xs (i:Int) s=(runY c ((List.range' i xs.length).flatMap L) s).map fun r=>bif r.2 then .next r.1 else .brk (false,r.1)
 | [],i,s,h=>rfl
 | x::xs,i,s,h=>by
  rw [eachC,h i x s (Nat.le_refl _) (by simp),List.length_cons,List.range'_succ,List.flatMap_cons,runY_append]
  cases runY c (L i) s with
  | none=>rfl
  | some r=>
   obtain ⟨s',go⟩:=r
   cases go with
   | false=>rfl
   | true=>
    simp only [Option.map_some,bsm,cond_true]
    rw [show (i:Int)+1=((i+1:Nat):Int) by omega]
    exact eachC_run c L xs (i+1) s' (fun j y s hj hy=>h j y s (by omega) (by
     have:j - i=(j - (i+1))+1:=by omega
     rw [this,List.getElem?_cons_succ];exact hy))
def shH (b:HairBook) (i:Nat):Int:=match b.Horses[i]? with | some x=>x.Shade | none=>0
def dyeQ (b:HairBook) (p:List Int):Bool:=(List.range (p.length / 2)).all fun i=>(dyesF b (shH b i) ((p[2*i]?).getD 0) ((p[2*i+1]?).getD 0)).isSome
def fitP (b:HairBook) (by_:Span→Int) (p:List Int):Bool:=b.Hanks.zipIdx.all fun y=>!decide (by_ y.1.Weight<cutS b p 0 (y.2:Int))
def okP (b:HairBook) (by_:Span→Int) (p:List Int):Bool:=fitP b by_ p&&dyeQ b p
theorem fitP_iff {b:HairBook} {by_:Span→Int} {p:List Int}:fitP b by_ p=true↔∀ (k:Nat) x,b.Hanks[k]?=some x→cutS b p 0 (k:Int)≤by_ x.Weight:=by
 unfold fitP
 rw [List.all_eq_true]
 constructor
 ·intro h k x hx
  have:=h (x,k) (by
   rw [List.mem_iff_getElem?]
   exact ⟨k,by rw [List.getElem?_zipIdx,hx];simp⟩)
  simpa using this
 ·intro h y hy
  rw [List.mem_iff_getElem?] at hy
  obtain ⟨k,hk⟩:=hy
  rw [List.getElem?_zipIdx] at hk
  cases hx:b.Hanks[k]? with
  | none=>rw [hx] at hk;cases hk
  | some x=>
   rw [hx] at hk
   simp only [Option.map_some,Option.some.injEq,Nat.zero_add] at hk
   subst hk
   have:=h k x hx
   simpa using this
theorem all_congr {α:Type} {f g:α→Bool}:∀ {l:List α},(∀ x,x∈l→f x=g x)→l.all f=l.all g
 | [],h=>rfl
 | x::l,h=>by rw [List.all_cons,List.all_cons,h x (by simp),all_congr (fun y hy=>h y (by simp [hy]))]
theorem dyeQ_snoc (b:HairBook) (p:List Int) (k:Int):dyeQ b (p++[k])=(dyeQ b p&&bif decide (p.length % 2=1) then (dyesF b (shH b (p.length / 2)) ((p[p.length - 1]?).getD 0) k).isSome else true):=by
 have hc:∀ i,i<p.length / 2→(dyesF b (shH b i) (((p++[k])[2*i]?).getD 0) (((p++[k])[2*i+1]?).getD 0)).isSome=(dyesF b (shH b i) ((p[2*i]?).getD 0) ((p[2*i+1]?).getD 0)).isSome:=fun i hi=>by
  rw [List.getElem?_append_left (by omega),List.getElem?_append_left (by omega)]
 unfold dyeQ
 rw [List.length_append,List.length_singleton]
 by_cases h:p.length % 2=1
 ·rw [decide_eq_true h,cond_true,show (p.length+1) / 2=p.length / 2+1 by omega,List.range_succ,List.all_append,all_congr (fun i hi=>hc i (List.mem_range.1 hi))]
  congr 1
  rw [List.all_cons,List.all_nil,Bool.and_true,List.getElem?_append_left (by omega),List.getElem?_append_right (by omega),show 2*(p.length / 2)+1 - p.length=0 by omega,show 2*(p.length / 2)=p.length - 1 by omega]
  rfl
 ·rw [decide_eq_false h,cond_false,Bool.and_true,show (p.length+1) / 2=p.length / 2 by omega,all_congr (fun i hi=>hc i (List.mem_range.1 hi))]
theorem fitP_snoc {b:HairBook} (ok:OkH b) {by_:Span→Int} {p:List Int} (hp:fitP b by_ p=true) {k:Nat} {x:HairHank} (hx:b.Hanks[k]?=some x):fitP b by_ (p++[(k:Int)])=!decide (by_ x.Weight<cutS b p 0 (k:Int)+partN b p.length):=by
 rw [fitP_iff] at hp
 rw [Bool.eq_iff_iff,fitP_iff]
 simp only [Bool.not_eq_true',decide_eq_false_iff_not,Int.not_lt]
 constructor
 ·intro h
  have:=h k x hx
  rw [cutS_snoc,decide_eq_true rfl,cond_true,Nat.zero_add] at this
  exact this
 ·intro h j y hy
  rw [cutS_snoc,Nat.zero_add]
  by_cases e:(k:Int)=(j:Int)
  ·have:j=k:=by omega
   subst this
   rw [decide_eq_true rfl,cond_true]
   rw [hx] at hy;cases hy;exact h
  ·rw [decide_eq_false e,cond_false]
   have:=hp j y hy
   omega
theorem okP_snoc {b:HairBook} (ok:OkH b) {by_:Span→Int} {p:List Int} (hp:okP b by_ p=true) {k:Nat} {x:HairHank} (hx:b.Hanks[k]?=some x):okP b by_ (p++[(k:Int)])=(!decide (by_ x.Weight<cutS b p 0 (k:Int)+partN b p.length)&&bif decide (p.length % 2=1) then (dyesF b (shH b (p.length / 2)) ((p[p.length - 1]?).getD 0) (k:Int)).isSome else true):=by
 unfold okP at hp ⊢
 rw [Bool.and_eq_true] at hp
 rw [fitP_snoc ok hp.1 hx,dyeQ_snoc,hp.2,Bool.true_and]
theorem fitP_pre {b:HairBook} (ok:OkH b) {by_:Span→Int} {p:List Int} {k:Int} (h:fitP b by_ (p++[k])=true):fitP b by_ p=true:=by
 rw [fitP_iff] at h ⊢
 intro j x hx
 have:=h j x hx
 rw [cutS_snoc,Nat.zero_add] at this
 have hb:=partN_bd ok p.length
 cases hd:decide (k=(j:Int))<;>rw [hd] at this<;>simp only [cond_true,cond_false] at this<;>omega
theorem okP_pre {b:HairBook} (ok:OkH b) {by_:Span→Int} (p:List Int) (k:Int) (h:okP b by_ (p++[k])=true):okP b by_ p=true:=by
 unfold okP at h ⊢
 rw [Bool.and_eq_true] at h ⊢
 refine ⟨fitP_pre ok h.1,?_⟩
 rw [dyeQ_snoc,Bool.and_eq_true] at h
 exact h.2.1
def cutF (b:HairBook) (p:List Int):Nat→Int:=fun k=>cutS b p 0 (k:Int)
theorem p112 {S:Type} (c:List Int→(Nat→Int)→S→Option (S×Bool)) {b:HairBook} (ok:OkH b) {mf:List (Hair_dye×Span)} (hmf:ShOk b mf):∀ (n fuel:Nat) (p:List Int) (s:S),p.length+n=2*b.Horses.length→n+1≤fuel→(∀ x,x∈p→0≤x∧x<b.Hanks.length)→okP b (·.Low) p=true →
  g112 c fuel p (cutF b p) b mf b mf s=(runY (fun q s=>c q (cutF b q) s) (tr b.Hanks.length (okP b (·.Low)) n p) s).map fun r=>(r.2,r.1)
 | 0,fuel,p,s,hl,hf,hr,ho=>by
  have h3:=ok.l3
  obtain ⟨fuel,rfl⟩:∃ j,fuel=j+1:=⟨fuel - 1,by omega⟩
  rw [g112,wr_in (by omega) (by omega),decide_eq_true (show (p.length:Int)=2*(b.Horses.length:Int) by omega),cond_true,tr,ho,cond_true,runY]
  cases c p (cutF b p) s with
  | none=>rfl
  | some r=>obtain ⟨s',go⟩:=r;cases go<;>rfl
 | n+1,fuel,p,s,hl,hf,hr,ho=>by
  have h3:=ok.l3
  have h4:=ok.l4
  obtain ⟨fuel,rfl⟩:∃ j,fuel=j+1:=⟨fuel - 1,by omega⟩
  have hlt:p.length / 2<b.Horses.length:=by omega
  have hpn:=partN_bd ok p.length
  have hH:=ok.horses _ (List.getElem_mem hlt)
  rw [g112,wr_in (by omega) (by omega),decide_eq_false (show ¬ (p.length:Int)=2*(b.Horses.length:Int) by omega),cond_false,tdiv_nat,tmod_nat,ixN_nat (show p.length % 2<2 by omega)]
  rw [wr_in (show -9223372036854775808≤((p.length / 2:Nat):Int) by omega) (by omega)]
  rw [ixL_nat,List.getElem?_eq_getElem hlt]
  have key:∀ {X:Option Int} {F:Int→Option (Bool×S)} {R:Option (Bool×S)},X=some (partN b p.length)→F (partN b p.length)=R→X.bind F=R:=by
   intro X F R h1 h2;rw [h1];exact h2
  refine key ?_ ?_
  ·unfold partN
   rw [List.getElem?_eq_getElem hlt]
   have hm:p.length % 2=0∨p.length % 2=1:=by omega
   rcases hm with hm | hm<;>rw [hm]<;>rfl
  have hstep:∀ (j:Nat) (x:HairHank) (s:S),0≤j→b.Hanks[j - 0]?=some x→g112_16 (g112 c fuel) p (cutF b p) b mf b mf (partN b p.length) (j:Int) x s=(runY (fun q s=>c q (cutF b q) s) (tr b.Hanks.length (okP b (·.Low)) n (p++[(j:Int)])) s).map fun r=>bif r.2 then .next r.1 else .brk (false,r.1):=fun j x s _ hx=>by
   rw [Nat.sub_zero] at hx
   have hj:=(List.getElem?_eq_some_iff.1 hx).1
   have hcut:=cutS_bd ok (j:Int) p 0
   have hsn:=okP_snoc ok ho hx
   have hshH:shH b (p.length / 2)=b.Horses[p.length / 2].Shade:=by
    unfold shH;rw [List.getElem?_eq_getElem hlt]
   unfold g112_16
   rw [ixN_nat (show j<5 by omega),bsm]
   simp only [g107,bsm]
   rw [show cutF b p j=cutS b p 0 (j:Int) from rfl,wr_in (show -9223372036854775808≤cutS b p 0 (j:Int)+partN b p.length by omega) (by omega)]
   have hgo:okP b (·.Low) (p++[(j:Int)])=true→(slcL p 0 (p.length:Int)).bind (fun l=>(appL 8 l [(j:Int)]).bind fun l1=>(g112 c fuel l1 (aset (cutF b p) j (cutS b p 0 (j:Int)+partN b p.length)) b mf b mf s).bind fun (r:Bool×S)=>bif (!r.1) then some (.brk (false,r.2)) else some (.next r.2))=(runY (fun q s=>c q (cutF b q) s) (tr b.Hanks.length (okP b (·.Low)) n (p++[(j:Int)])) s).map fun r=>bif r.2 then (.next r.1:Ctl S (Bool×S)) else .brk (false,r.1):=fun hk=>by
    rw [slcL_all,bsm,appL_ok (by rw [List.length_append,List.length_singleton];omega),bsm]
    have hw:aset (cutF b p) j (cutS b p 0 (j:Int)+partN b p.length)=cutF b (p++[(j:Int)]):=by
     funext i
     rw [aset_get]
     unfold cutF
     rw [cutS_snoc,Nat.zero_add]
     by_cases e:i=j
     ·subst e;rw [if_pos rfl,decide_eq_true rfl,cond_true]
     ·rw [if_neg e,decide_eq_false (by omega),cond_false,Int.add_zero]
    rw [hw,p112 c ok hmf n fuel (p++[(j:Int)]) s (by rw [List.length_append,List.length_singleton];omega) (by omega) (fun x hx=>by
     rcases List.mem_append.1 hx with hx | hx
     ·exact hr x hx
     ·rw [List.mem_singleton] at hx;omega) hk]
    cases runY (fun q s=>c q (cutF b q) s) (tr b.Hanks.length (okP b (·.Low)) n (p++[(j:Int)])) s with
    | none=>rfl
    | some r=>obtain ⟨s',go⟩:=r;cases go<;>rfl
   have hno:okP b (·.Low) (p++[(j:Int)])=false→(some (.next s):Option (Ctl S (Bool×S)))=(runY (fun q s=>c q (cutF b q) s) (tr b.Hanks.length (okP b (·.Low)) n (p++[(j:Int)])) s).map fun r=>bif r.2 then .next r.1 else .brk (false,r.1):=fun hk=>by
    have:tr b.Hanks.length (okP b (·.Low)) n (p++[(j:Int)])=[]:=by
     cases n<;>rw [tr,hk]<;>rfl
    rw [this];rfl
   by_cases h1:x.Weight.Low<cutS b p 0 (j:Int)+partN b p.length
   ·rw [decide_eq_true h1] at hsn ⊢
    simp only [cond_true,bindC]
    exact hno (by rw [hsn];rfl)
   ·rw [decide_eq_false h1] at hsn ⊢
    simp only [cond_false,Bool.not_false,Bool.true_and] at hsn ⊢
    by_cases h2:p.length % 2=1
    ·have hlast:p.length - 1<p.length:=by omega
     have hlr:=hr _ (List.getElem_mem hlast)
     rw [decide_eq_true h2,cond_true,List.getElem?_eq_getElem hlast,Option.getD_some,hshH] at hsn
     rw [tmod_nat,tdiv_nat,wr_in (show -9223372036854775808≤((p.length / 2:Nat):Int) by omega) (by omega),decide_eq_true (show ((p.length % 2:Nat):Int)=1 by omega),cond_true,wr_in (show -9223372036854775808≤(p.length:Int) - 1 by omega) (by omega),show (p.length:Int) - 1=((p.length - 1:Nat):Int) by omega,ixL_nat,List.getElem?_eq_getElem hlast,bsm,g89,p59 ok hmf (horse:=((p.length / 2:Nat):Int)) (p:=b.Horses[p.length / 2]) (by rw [ixL_nat,List.getElem?_eq_getElem hlt]) hH.2.2 hlr.1 hlr.2 (show (0:Int)≤(j:Int) by omega) (by omega)]
     cases hd:dyesF b b.Horses[p.length / 2].Shade p[p.length - 1] (j:Int) with
     | none=>
      rw [hd] at hsn
      simp only [bsm,Bool.not_false,cond_true,bindC]
      exact hno hsn
     | some d=>
      rw [hd] at hsn
      simp only [bsm,Bool.not_true,cond_false,bindC]
      exact hgo hsn
    ·rw [decide_eq_false h2,cond_false] at hsn
     rw [tmod_nat,decide_eq_false (show ¬ ((p.length % 2:Nat):Int)=1 by omega),cond_false]
     simp only [bindC,bsm]
     exact hgo hsn
  have:=eachC_run (f:=g112_16 (g112 c fuel) p (cutF b p) b mf b mf (partN b p.length)) (fun q s=>c q (cutF b q) s) (fun j=>tr b.Hanks.length (okP b (·.Low)) n (p++[(j:Int)])) b.Hanks 0 s hstep
  rw [show ((0:Nat):Int)=0 from rfl] at this
  rw [this,tr,ho,cond_true]
  cases runY (fun q s=>c q (cutF b q) s) ((List.range' 0 b.Hanks.length).flatMap fun (k:Nat)=>tr b.Hanks.length (okP b (·.Low)) n (p++[(k:Int)])) s with
  | none=>rfl
  | some r=>obtain ⟨s',go⟩:=r;cases go<;>rfl
theorem p112a {S:Type} (c:List Int→(Nat→Int)→S→Option (S×Bool)) {b:HairBook} (ok:OkH b) {mf:List (Hair_dye×Span)} (hmf:ShOk b mf):∀ (n fuel:Nat) (p:List Int) (s:S),p.length+n=2*b.Horses.length→n+1≤fuel→(∀ x,x∈p→0≤x∧x<b.Hanks.length)→okP b (·.High) p=true →
  g112a c fuel p (cutF b p) b mf b mf s=(runY (fun q s=>c q (cutF b q) s) (tr b.Hanks.length (okP b (·.High)) n p) s).map fun r=>(r.2,r.1)
 | 0,fuel,p,s,hl,hf,hr,ho=>by
  have h3:=ok.l3
  obtain ⟨fuel,rfl⟩:∃ j,fuel=j+1:=⟨fuel - 1,by omega⟩
  rw [g112a,wr_in (by omega) (by omega),decide_eq_true (show (p.length:Int)=2*(b.Horses.length:Int) by omega),cond_true,tr,ho,cond_true,runY]
  cases c p (cutF b p) s with
  | none=>rfl
  | some r=>obtain ⟨s',go⟩:=r;cases go<;>rfl
 | n+1,fuel,p,s,hl,hf,hr,ho=>by
  have h3:=ok.l3
  have h4:=ok.l4
  obtain ⟨fuel,rfl⟩:∃ j,fuel=j+1:=⟨fuel - 1,by omega⟩
  have hlt:p.length / 2<b.Horses.length:=by omega
  have hpn:=partN_bd ok p.length
  have hH:=ok.horses _ (List.getElem_mem hlt)
  rw [g112a,wr_in (by omega) (by omega),decide_eq_false (show ¬ (p.length:Int)=2*(b.Horses.length:Int) by omega),cond_false,tdiv_nat,tmod_nat,ixN_nat (show p.length % 2<2 by omega)]
  rw [wr_in (show -9223372036854775808≤((p.length / 2:Nat):Int) by omega) (by omega)]
  rw [ixL_nat,List.getElem?_eq_getElem hlt]
  have key:∀ {X:Option Int} {F:Int→Option (Bool×S)} {R:Option (Bool×S)},X=some (partN b p.length)→F (partN b p.length)=R→X.bind F=R:=by
   intro X F R h1 h2;rw [h1];exact h2
  refine key ?_ ?_
  ·unfold partN
   rw [List.getElem?_eq_getElem hlt]
   have hm:p.length % 2=0∨p.length % 2=1:=by omega
   rcases hm with hm | hm<;>rw [hm]<;>rfl
  have hstep:∀ (j:Nat) (x:HairHank) (s:S),0≤j→b.Hanks[j - 0]?=some x→g112a_16 (g112a c fuel) p (cutF b p) b mf b mf (partN b p.length) (j:Int) x s=(runY (fun q s=>c q (cutF b q) s) (tr b.Hanks.length (okP b (·.High)) n (p++[(j:Int)])) s).map fun r=>bif r.2 then .next r.1 else .brk (false,r.1):=fun j x s _ hx=>by
   rw [Nat.sub_zero] at hx
   have hj:=(List.getElem?_eq_some_iff.1 hx).1
   have hcut:=cutS_bd ok (j:Int) p 0
   have hsn:=okP_snoc ok ho hx
   have hshH:shH b (p.length / 2)=b.Horses[p.length / 2].Shade:=by
    unfold shH;rw [List.getElem?_eq_getElem hlt]
   unfold g112a_16
   rw [ixN_nat (show j<5 by omega),bsm]
   simp only [g108,bsm]
   rw [show cutF b p j=cutS b p 0 (j:Int) from rfl,wr_in (show -9223372036854775808≤cutS b p 0 (j:Int)+partN b p.length by omega) (by omega)]
   have hgo:okP b (·.High) (p++[(j:Int)])=true→(slcL p 0 (p.length:Int)).bind (fun l=>(appL 8 l [(j:Int)]).bind fun l1=>(g112a c fuel l1 (aset (cutF b p) j (cutS b p 0 (j:Int)+partN b p.length)) b mf b mf s).bind fun (r:Bool×S)=>bif (!r.1) then some (.brk (false,r.2)) else some (.next r.2))=(runY (fun q s=>c q (cutF b q) s) (tr b.Hanks.length (okP b (·.High)) n (p++[(j:Int)])) s).map fun r=>bif r.2 then (.next r.1:Ctl S (Bool×S)) else .brk (false,r.1):=fun hk=>by
    rw [slcL_all,bsm,appL_ok (by rw [List.length_append,List.length_singleton];omega),bsm]
    have hw:aset (cutF b p) j (cutS b p 0 (j:Int)+partN b p.length)=cutF b (p++[(j:Int)]):=by
     funext i
     rw [aset_get]
     unfold cutF
     rw [cutS_snoc,Nat.zero_add]
     by_cases e:i=j
     ·subst e;rw [if_pos rfl,decide_eq_true rfl,cond_true]
     ·rw [if_neg e,decide_eq_false (by omega),cond_false,Int.add_zero]
    rw [hw,p112a c ok hmf n fuel (p++[(j:Int)]) s (by rw [List.length_append,List.length_singleton];omega) (by omega) (fun x hx=>by
     rcases List.mem_append.1 hx with hx | hx
     ·exact hr x hx
     ·rw [List.mem_singleton] at hx;omega) hk]
    cases runY (fun q s=>c q (cutF b q) s) (tr b.Hanks.length (okP b (·.High)) n (p++[(j:Int)])) s with
    | none=>rfl
    | some r=>obtain ⟨s',go⟩:=r;cases go<;>rfl
   have hno:okP b (·.High) (p++[(j:Int)])=false→(some (.next s):Option (Ctl S (Bool×S)))=(runY (fun q s=>c q (cutF b q) s) (tr b.Hanks.length (okP b (·.High)) n (p++[(j:Int)])) s).map fun r=>bif r.2 then .next r.1 else .brk (false,r.1):=fun hk=>by
    have:tr b.Hanks.length (okP b (·.High)) n (p++[(j:Int)])=[]:=by
     cases n<;>rw [tr,hk]<;>rfl
    rw [this];rfl
   by_cases h1:x.Weight.High<cutS b p 0 (j:Int)+partN b p.length
   ·rw [decide_eq_true h1] at hsn ⊢
    simp only [cond_true,bindC]
    exact hno (by rw [hsn];rfl)
   ·rw [decide_eq_false h1] at hsn ⊢
    simp only [cond_false,Bool.not_false,Bool.true_and] at hsn ⊢
    by_cases h2:p.length % 2=1
    ·have hlast:p.length - 1<p.length:=by omega
     have hlr:=hr _ (List.getElem_mem hlast)
     rw [decide_eq_true h2,cond_true,List.getElem?_eq_getElem hlast,Option.getD_some,hshH] at hsn
     rw [tmod_nat,tdiv_nat,wr_in (show -9223372036854775808≤((p.length / 2:Nat):Int) by omega) (by omega),decide_eq_true (show ((p.length % 2:Nat):Int)=1 by omega),cond_true,wr_in (show -9223372036854775808≤(p.length:Int) - 1 by omega) (by omega),show (p.length:Int) - 1=((p.length - 1:Nat):Int) by omega,ixL_nat,List.getElem?_eq_getElem hlast,bsm,g89,p59 ok hmf (horse:=((p.length / 2:Nat):Int)) (p:=b.Horses[p.length / 2]) (by rw [ixL_nat,List.getElem?_eq_getElem hlt]) hH.2.2 hlr.1 hlr.2 (show (0:Int)≤(j:Int) by omega) (by omega)]
     cases hd:dyesF b b.Horses[p.length / 2].Shade p[p.length - 1] (j:Int) with
     | none=>
      rw [hd] at hsn
      simp only [bsm,Bool.not_false,cond_true,bindC]
      exact hno hsn
     | some d=>
      rw [hd] at hsn
      simp only [bsm,Bool.not_true,cond_false,bindC]
      exact hgo hsn
    ·rw [decide_eq_false h2,cond_false] at hsn
     rw [tmod_nat,decide_eq_false (show ¬ ((p.length % 2:Nat):Int)=1 by omega),cond_false]
     simp only [bindC,bsm]
     exact hgo hsn
  have:=eachC_run (f:=g112a_16 (g112a c fuel) p (cutF b p) b mf b mf (partN b p.length)) (fun q s=>c q (cutF b q) s) (fun j=>tr b.Hanks.length (okP b (·.High)) n (p++[(j:Int)])) b.Hanks 0 s hstep
  rw [show ((0:Nat):Int)=0 from rfl] at this
  rw [this,tr,ho,cond_true]
  cases runY (fun q s=>c q (cutF b q) s) ((List.range' 0 b.Hanks.length).flatMap fun (k:Nat)=>tr b.Hanks.length (okP b (·.High)) n (p++[(k:Int)])) s with
  | none=>rfl
  | some r=>obtain ⟨s',go⟩:=r;cases go<;>rfl
def plansL (b:HairBook) (by_:Span→Int):List (List Int):=(allp b.Hanks.length (2*b.Horses.length) []).filter (okP b by_)
theorem okP_nil {b:HairBook} {by_:Span→Int} (h:∀ x,x∈b.Hanks→0≤by_ x.Weight):okP b by_ []=true:=by
 unfold okP
 rw [Bool.and_eq_true]
 refine ⟨fitP_iff.2 fun k x hx=>?_,rfl⟩
 have:=h x (List.mem_of_getElem? hx)
 simp only [cutS];exact this
theorem cutF_nil (b:HairBook):arrL [(0:Int),0,0,0,0]=cutF b []:=by
 funext k
 match k with
 | 0=>rfl
 | 1=>rfl
 | 2=>rfl
 | 3=>rfl
 | 4=>rfl
 | k+5=>rfl
theorem p111 {S:Type} (c:List Int→(Nat→Int)→S→Option (S×Bool)) {b:HairBook} (ok:OkH b) {mf:List (Hair_dye×Span)} (hmf:ShOk b mf) (s:S):g111 c b mf b mf s=(runY (fun q s=>c q (cutF b q) s) (plansL b (·.Low)) s).map (·.1):=by
 have h3:=ok.l3
 unfold g111 g105
 rw [bsm,cutF_nil b,p112 c ok hmf (2*b.Horses.length) 1000 [] s (by simp) (by omega) (by simp) (okP_nil fun x hx=>by have:=(ok.hanks x hx).w;omega),tr_eq (okP_pre ok)]
 unfold plansL
 cases runY (fun q s=>c q (cutF b q) s) ((allp b.Hanks.length (2*b.Horses.length) []).filter (okP b (·.Low))) s<;>rfl
theorem p111a {S:Type} (c:List Int→(Nat→Int)→S→Option (S×Bool)) {b:HairBook} (ok:OkH b) {mf:List (Hair_dye×Span)} (hmf:ShOk b mf) (s:S):g111a c b mf b mf s=(runY (fun q s=>c q (cutF b q) s) (plansL b (·.High)) s).map (·.1):=by
 have h3:=ok.l3
 unfold g111a g105
 rw [bsm,cutF_nil b,p112a c ok hmf (2*b.Horses.length) 1000 [] s (by simp) (by omega) (by simp) (okP_nil fun x hx=>by have:=(ok.hanks x hx).w;omega),tr_eq (okP_pre ok)]
 unfold plansL
 cases runY (fun q s=>c q (cutF b q) s) ((allp b.Hanks.length (2*b.Horses.length) []).filter (okP b (·.High))) s<;>rfl
def servedB (b:HairBook):Bool:=!(plansL b (·.Low)).isEmpty
theorem p84 {b:HairBook} (ok:OkH b) {mf:List (Hair_dye×Span)} (hmf:ShOk b mf):g84 b mf=some (servedB b):=by
 unfold g84 g76 g88
 rw [bsm,bsm]
 simp only
 rw [p111 _ ok hmf]
 have:=runY_stop (B:=fun q u=>g84_r5 (q,cutF b q) u) (X:=Unit) () (plansL b (·.Low)) () (fun a s=>rfl)
 unfold servedB
 have e:runY (fun q s=>rndC g84_r5 (q,cutF b q) s) (plansL b (·.Low)) (.next ())=runY (fun a s=>rndC (fun q u=>g84_r5 (q,cutF b q) u) a s) (plansL b (·.Low)) (.next ()):=by
  congr 1
 rw [e,this]
 cases plansL b (·.Low)<;>rfl
theorem dyeQ_full {b:HairBook} {p:List Int} (hp:p.length=2*b.Horses.length):dyeQ b p=dyeK b p:=by
 unfold dyeQ dyeK
 rw [hp,show 2*b.Horses.length / 2=b.Horses.length by omega,Bool.eq_iff_iff,List.all_eq_true,List.all_eq_true]
 constructor
 ·intro h y hy
  rw [List.mem_iff_getElem?] at hy
  obtain ⟨k,hk⟩:=hy
  rw [List.getElem?_zipIdx] at hk
  cases hx:b.Horses[k]? with
  | none=>rw [hx] at hk;cases hk
  | some x=>
   rw [hx] at hk
   simp only [Option.map_some,Option.some.injEq,Nat.zero_add] at hk
   subst hk
   have:=h k (List.mem_range.2 (List.getElem?_eq_some_iff.1 hx).1)
   unfold shH at this
   rw [hx] at this
   exact this
 ·intro h k hk
  have hlt:=List.mem_range.1 hk
  have:=h (b.Horses[k],k) (by
   rw [List.mem_iff_getElem?]
   exact ⟨k,by rw [List.getElem?_zipIdx,List.getElem?_eq_getElem hlt];simp⟩)
  unfold shH
  rw [List.getElem?_eq_getElem hlt]
  exact this
theorem planB_iff {b:HairBook} {p:List Int}:planB b p=true↔p.length=2*b.Horses.length∧∀ n,n∈p→0≤n∧n<b.Hanks.length:=by
 constructor
 ·intro h;have:=plan_of h;exact ⟨this.len,this.rng⟩
 ·rintro ⟨h1,h2⟩
  simp only [planB,Bool.and_eq_true,decide_eq_true_eq,List.all_eq_true,rg_iff]
  exact ⟨by omega,fun n hn=>by have:=h2 n hn;omega⟩
theorem mem_allP {b:HairBook} {p:List Int}:p∈allp b.Hanks.length (2*b.Horses.length) []↔planB b p=true:=by
 rw [mem_allp,planB_iff]
 constructor
 ·rintro ⟨l,h1,h2,h3⟩
  rw [List.nil_append] at h1
  subst h1;exact ⟨h2,h3⟩
 ·rintro ⟨h1,h2⟩;exact ⟨p,rfl,h1,h2⟩
end Go.Proofs.YtonjadhpjkbhnaaDoor
namespace Go.Proofs.YtonjadhpjkbhnaaDoor
open Go.Abs Go.Proofs.Th
theorem dyesF_some {b:HairBook} {want mane tail:Int} {d:Int×Int} (h:dyesF b want mane tail=some d):0≤d.1∧d.1≤b.Dark∧0≤d.2∧d.2≤b.Dark∧mB b want mane tail d.1 d.2=true:=by
 unfold dyesF at h
 cases hf:firstI (fun m=>(firstI (fun t=>mB b want mane tail m t) (b.Dark+1).toNat 0).isSome) (b.Dark+1).toNat 0 with
 | none=>rw [hf] at h;cases h
 | some m=>
  rw [hf] at h
  obtain ⟨m1,m2,m3,_⟩:=firstI_some hf
  cases hg:firstI (fun t=>mB b want mane tail m t) (b.Dark+1).toNat 0 with
  | none=>rw [hg] at m3;cases m3
  | some t=>
   obtain ⟨t1,t2,t3,_⟩:=firstI_some hg
   rw [Option.map_some,hg] at h
   cases h
   exact ⟨m1,by omega,t1,by simp only [Option.getD_some];omega,t3⟩
end Go.Proofs.YtonjadhpjkbhnaaDoor
namespace Go.Proofs.YtonjadhpjkbhnaaDoor
open Go.Abs Go.Proofs.Th
theorem p18_loop1 (b:HairBook) (hl:b.Hanks.length<900) (s:Bool):whileC (g18_15 b) 1000 (s,0)=some (s&&b.Hanks.all okHank):=by
 have h0:∀ i,g18_15 b (false,i)=some (.brk false):=fun i=>by simp [g18_15,bsm]
 cases s with
 | false=>rw [whileC,h0];rfl
 | true=>
  have:=while_all (f:=g18_15 b) (p:=okHank) (xs:=b.Hanks) hl h0 (by simp [g18_15,bsm]) (fun i x hx=>by
   have hi:i<b.Hanks.length:=(List.getElem?_eq_some_iff.1 hx).1
   simp only [g18_15,cond_true,bsm,ixL_nat,hx,g64,cs,Bool.cond_false_right]
   have:decide ((i:Int)<(b.Hanks.length:Int))=true:=by simp [hi]
   rw [this,wr_nat (by omega)]
   simp only [cond_true]
   congr 3
   unfold okHank okSpan
   simp only [Bool.and_assoc]) b.Hanks.length 0 (by omega) 1000 (by omega)
  simpa using this
theorem p18_loop2 (b:HairBook) (hl:b.Horses.length<900) (s:Bool):whileC (g18_31 b) 1000 (s,0)=some (s&&b.Horses.all okHorse):=by
 have h0:∀ i,g18_31 b (false,i)=some (.brk false):=fun i=>by simp [g18_31,bsm]
 cases s with
 | false=>rw [whileC,h0];rfl
 | true=>
  have:=while_all (f:=g18_31 b) (p:=okHorse) (xs:=b.Horses) hl h0 (by simp [g18_31,bsm]) (fun i x hx=>by
   have hi:i<b.Horses.length:=(List.getElem?_eq_some_iff.1 hx).1
   simp only [g18_31,cond_true,bsm,ixL_nat,hx,p50,cs,Bool.cond_false_right]
   have:decide ((i:Int)<(b.Horses.length:Int))=true:=by simp [hi]
   rw [this,wr_nat (by omega)]
   simp only [cond_true]
   rfl) b.Horses.length 0 (by omega) 1000 (by omega)
  simpa using this
theorem p18 (b:HairBook):g18 b=some (bif okH b then 0 else 60):=by
 unfold g18
 simp only [p50,bsm,cs,Bool.cond_false_right]
 have hfin:∀ x:Bool,(bif !x then (some 60:Option Int) else some 0)=some (bif x then 0 else 60):=by intro x;cases x<;>rfl
 have e1:whileC (g18_15 b) 1000 (false,0)=some false:=by rw [whileC];simp [g18_15,bsm]
 have e2:whileC (g18_31 b) 1000 (false,0)=some false:=by rw [whileC];simp [g18_31,bsm]
 cases hv:(decide ((b.Hanks.length:Int)≤4)&&decide ((b.Horses.length:Int)≤3)&&rg b.Dark 0 4&&rg b.Near 0 3&&rg b.Match 0 3) with
 | false=>
  simp only [e1,e2,bsm]
  unfold okH
  rw [hv];rfl
 | true=>
  have hv':=hv
  simp only [Bool.and_eq_true,decide_eq_true_eq] at hv'
  obtain ⟨⟨⟨⟨q1,q2⟩,_⟩,_⟩,_⟩:=hv'
  rw [p18_loop1 b (by omega)]
  simp only [bsm]
  rw [p18_loop2 b (by omega)]
  simp only [bsm]
  unfold okH
  rw [hv]
  cases true&&b.Hanks.all okHank&&b.Horses.all okHorse<;>rfl
def matS (b:HairBook) (want m t:Int):Bool:=decide (m - want≤b.Near)&&decide (want - m≤b.Near)&&(decide (t - want≤b.Near)&&decide (want - t≤b.Near))&&(decide (m - t≤b.Match)&&decide (t - m≤b.Match))
theorem p114 {b:HairBook} {want m t:Int} (h1:-1000≤want∧want≤1000) (h2:-1000≤m∧m≤1000) (h3:-1000≤t∧t≤1000):g114 b want m t=some (matS b want m t):=by
 have h117:∀ u v:Int,-1000≤u∧u≤1000→-1000≤v∧v≤1000→g117 u v=some (max (u - v) (v - u)):=fun u v h1 h2=>by
  unfold g117
  rw [wr_in (by omega) (by omega),wr_in (by omega) (by omega)]
 have hmx:∀ u v n:Int,decide (max (u - v) (v - u)≤n)=(decide (u - v≤n)&&decide (v - u≤n)):=fun u v n=>by
  rw [Bool.eq_iff_iff]
  simp only [Bool.and_eq_true,decide_eq_true_eq]
  omega
 unfold g114 matS
 rw [h117 m want h2 h1,h117 t want h3 h1,h117 m t h2 h3]
 simp only [bsm,hmx,cs,Bool.cond_false_right,Bool.and_assoc]
theorem p101 {b:HairBook} (ok:OkH b) {horse mane tail x y:Int} {p:HairHorse} (hp:ixL b.Horses horse=some p) (hw:0≤p.Shade∧p.Shade≤25) (a1:0≤mane) (a2:mane<b.Hanks.length) (b1:0≤tail) (b2:tail<b.Hanks.length) (x1:0≤x) (x2:x≤b.Dark) (y1:0≤y) (y2:y≤b.Dark) :
  g101 b horse mane tail (arrL [x,y])=some (mB b p.Shade mane tail x y):=by
 have hd:=ok.dark
 have hn:=ok.near
 have hma:=ok.mat
 have m1:mane.toNat<b.Hanks.length:=by omega
 have t1:tail.toNat<b.Hanks.length:=by omega
 have sm:=(ok.hanks _ (List.getElem_mem m1)).s
 have st:=(ok.hanks _ (List.getElem_mem t1)).s
 have em:ixL b.Hanks mane=some b.Hanks[mane.toNat]:=by
  unfold ixL;rw [decide_eq_true a1,cond_true,List.getElem?_eq_getElem m1]
 have et:ixL b.Hanks tail=some b.Hanks[tail.toNat]:=by
  unfold ixL;rw [decide_eq_true b1,cond_true,List.getElem?_eq_getElem t1]
 have hsm:shOf b mane x=⟨b.Hanks[mane.toNat].Shade.Low+x,b.Hanks[mane.toNat].Shade.High+x⟩:=by
  unfold shOf;rw [List.getElem?_eq_getElem m1]
 have hst:shOf b tail y=⟨b.Hanks[tail.toNat].Shade.Low+y,b.Hanks[tail.toNat].Shade.High+y⟩:=by
  unfold shOf;rw [List.getElem?_eq_getElem t1]
 have hsame:mane=tail→b.Hanks[mane.toNat]=b.Hanks[tail.toNat]:=fun h=>by subst h;rfl
 unfold g101
 rw [hp,bsm,em,bsm,et,bsm]
 generalize hM:b.Hanks[mane.toNat]=M at *
 generalize hT:b.Hanks[tail.toNat]=T at *
 rw [must_t (show decide (M.Shade.High+1≤9223372036854775807)=true by rw [decide_eq_true_eq];omega),bsm,must_t (show decide (-9223372036854775808≤M.Shade.Low)=true by rw [decide_eq_true_eq];omega),bsm]
 have hin:∀ n,M.Shade.Low≤n→n≤M.Shade.High→g101_6 b mane tail (arrL [x,y]) p T n ()=some (bif !allI (fun m=>(decide (mane=tail)&&!decide (n=m))||matS b p.Shade (n+x) (m+y)) (T.Shade.High+1 - T.Shade.Low).toNat T.Shade.Low then .brk false else .next ()):=fun n n1 n2=>by
  have:=forC_firstU (f:=g101_10 b mane tail (arrL [x,y]) p n) (fun m=>!((decide (mane=tail)&&!decide (n=m))||matS b p.Shade (n+x) (m+y))) (fun _=>(.brk false:Ctl Unit Bool)) (T.Shade.High+1 - T.Shade.Low).toNat T.Shade.Low (fun m k1 k2=>by
   unfold g101_10
   rw [show arrL [x,y] 0=x from rfl,show arrL [x,y] 1=y from rfl,wr_in (show -9223372036854775808≤n+x by omega) (by omega),wr_in (show -9223372036854775808≤m+y by omega) (by omega),p114 (by omega) (by omega) (by omega)]
   by_cases e:mane=tail
   ·by_cases e2:n=m
    ·rw [decide_eq_true e,decide_eq_true e2]
     cases matS b p.Shade (n+x) (m+y)<;>simp [bsm]
    ·rw [decide_eq_true e,decide_eq_false e2]
     simp [bsm,e]
   ·rw [decide_eq_false e]
    cases matS b p.Shade (n+x) (m+y)<;>simp [bsm,e])
  unfold g101_6
  rw [must_t (show decide (T.Shade.High+1≤9223372036854775807)=true by rw [decide_eq_true_eq];omega),bsm,must_t (show decide (-9223372036854775808≤T.Shade.Low)=true by rw [decide_eq_true_eq];omega),bsm,this]
  have ha:=allI_not (fun m=>!((decide (mane=tail)&&!decide (n=m))||matS b p.Shade (n+x) (m+y))) (T.Shade.High+1 - T.Shade.Low).toNat T.Shade.Low
  simp only [Bool.not_not] at ha
  rw [ha]
  cases firstI (fun m=>!((decide (mane=tail)&&!decide (n=m))||matS b p.Shade (n+x) (m+y))) (T.Shade.High+1 - T.Shade.Low).toNat T.Shade.Low<;>rfl
 have:=forC_firstU (f:=g101_6 b mane tail (arrL [x,y]) p T) (fun n=>!allI (fun m=>(decide (mane=tail)&&!decide (n=m))||matS b p.Shade (n+x) (m+y)) (T.Shade.High+1 - T.Shade.Low).toNat T.Shade.Low) (fun _=>false) (M.Shade.High+1 - M.Shade.Low).toNat M.Shade.Low (fun n k1 k2=>hin n k1 (by omega))
 rw [this]
 have ha:=allI_not (fun n=>!allI (fun m=>(decide (mane=tail)&&!decide (n=m))||matS b p.Shade (n+x) (m+y)) (T.Shade.High+1 - T.Shade.Low).toNat T.Shade.Low) (M.Shade.High+1 - M.Shade.Low).toNat M.Shade.Low
 simp only [Bool.not_not] at ha
 have key:allI (fun n=>allI (fun m=>(decide (mane=tail)&&!decide (n=m))||matS b p.Shade (n+x) (m+y)) (T.Shade.High+1 - T.Shade.Low).toNat T.Shade.Low) (M.Shade.High+1 - M.Shade.Low).toNat M.Shade.Low=mB b p.Shade mane tail x y:=by
  rw [Bool.eq_iff_iff,allI_iff]
  unfold mB nearB
  rw [hsm,hst]
  by_cases e:mane=tail
  ·have hMT:=hsame e
   subst hMT
   rw [decide_eq_true e]
   simp only [cond_true,Bool.true_and,Bool.and_eq_true,decide_eq_true_eq]
   constructor
   ·intro h
    have h1:=allI_iff.1 (h M.Shade.Low (by omega) (by omega)) M.Shade.Low (by omega) (by omega)
    have h2:=allI_iff.1 (h M.Shade.High (by omega) (by omega)) M.Shade.High (by omega) (by omega)
    simp [matS] at h1 h2
    omega
   ·intro h n n1 n2
    rw [allI_iff]
    intro m k1 k2
    by_cases e2:n=m
    ·subst e2
     simp [matS]
     omega
    ·simp [e2]
  ·rw [decide_eq_false e]
   simp only [cond_false,Bool.false_and,Bool.false_or,Bool.and_eq_true,decide_eq_true_eq]
   constructor
   ·intro h
    have h1:=allI_iff.1 (h M.Shade.Low (by omega) (by omega)) T.Shade.Low (by omega) (by omega)
    have h2:=allI_iff.1 (h M.Shade.High (by omega) (by omega)) T.Shade.High (by omega) (by omega)
    have h3:=allI_iff.1 (h M.Shade.Low (by omega) (by omega)) T.Shade.High (by omega) (by omega)
    have h4:=allI_iff.1 (h M.Shade.High (by omega) (by omega)) T.Shade.Low (by omega) (by omega)
    simp [matS] at h1 h2 h3 h4
    omega
   ·intro h n n1 n2
    rw [allI_iff]
    intro m k1 k2
    simp [matS]
    omega
 rw [← key,ha]
 cases firstI (fun n=>!allI (fun m=>(decide (mane=tail)&&!decide (n=m))||matS b p.Shade (n+x) (m+y)) (T.Shade.High+1 - T.Shade.Low).toNat T.Shade.Low) (M.Shade.High+1 - M.Shade.Low).toNat M.Shade.Low<;>rfl
theorem p62 {b:HairBook} (ok:OkH b) {horse mane tail:Int} {p:HairHorse} (hp:ixL b.Horses horse=some p) (hw:0≤p.Shade∧p.Shade≤25) (a1:0≤mane) (a2:mane<b.Hanks.length) (b1:0≤tail) (b2:tail<b.Hanks.length) :
  g62 b horse mane tail=some (match dyesF b p.Shade mane tail with | some d=>(arrL [d.1,d.2],true) | none=>(arrL [0,0],false)):=by
 have hd:=ok.dark
 have em:must (decide (b.Dark+1≤9223372036854775807))=some ():=must_t (by rw [decide_eq_true_eq];omega)
 have:=forC_firstU (f:=g62_2 b horse mane tail) (fun m=>(firstI (fun t=>mB b p.Shade mane tail m t) (b.Dark+1).toNat 0).isSome) (fun m=>(arrL [m,(firstI (fun t=>mB b p.Shade mane tail m t) (b.Dark+1).toNat 0).getD 0],true)) (b.Dark+1).toNat 0 (fun m m1 m2=>by
  have:=forC_firstU (f:=g62_6 b horse mane tail m) (fun t=>mB b p.Shade mane tail m t) (fun t=>(.brk (arrL [m,t],true):Ctl Unit ((Nat→Int)×Bool))) (b.Dark+1).toNat 0 (fun t t1 t2=>by
   unfold g62_6
   rw [p101 ok hp hw a1 a2 b1 b2 m1 (by omega) t1 (by omega),bsm,cs])
  unfold g62_2
  rw [em,bsm,Int.sub_zero,this]
  cases firstI (fun t=>mB b p.Shade mane tail m t) (b.Dark+1).toNat 0<;>rfl)
 unfold g62
 rw [em,bsm,Int.sub_zero,this]
 unfold dyesF
 cases firstI (fun m=>(firstI (fun t=>mB b p.Shade mane tail m t) (b.Dark+1).toNat 0).isSome) (b.Dark+1).toNat 0<;>rfl
theorem p106_loop {b:HairBook} (ok:OkH b) (hank:Int):∀ (ps:List Int) (v:Nat) (n c:Int),v+ps.length≤2*b.Horses.length→0≤n→n≤c→c+30*ps.length≤1000→eachS (g106_2 b hank) ps (v:Int) n=some (n+cutS b ps v hank)
 | [],v,n,c,hl,h0,h1,h2=>by simp [eachS,cutS]
 | p::ps,v,n,c,hl,h0,h1,h2=>by
  simp only [List.length_cons] at hl h2
  have h3:=ok.l3
  have hpn:=partN_bd ok v
  have hlt:v / 2<b.Horses.length:=by omega
  have hstep:g106_2 b hank (v:Int) p n=some (n+bif decide (p=hank) then partN b v else 0):=by
   unfold g106_2
   rw [tdiv_nat,tmod_nat,wr_in (by omega) (by omega),ixL_nat,List.getElem?_eq_getElem hlt,bsm]
   unfold partN at hpn ⊢
   rw [List.getElem?_eq_getElem hlt] at hpn ⊢
   simp only at hpn ⊢
   by_cases e:p=hank
   ·rw [decide_eq_true e]
    have hm:v % 2=0∨v % 2=1:=by omega
    rcases hm with hm | hm
    ·rw [hm] at hpn ⊢
     simp at hpn ⊢
     exact wr_in (by omega) (by omega)
    ·rw [hm] at hpn ⊢
     simp at hpn ⊢
     exact wr_in (by omega) (by omega)
   ·rw [decide_eq_false e]
    simp [bsm]
  have hb:0≤(bif decide (p=hank) then partN b v else 0)∧(bif decide (p=hank) then partN b v else 0)≤30:=by
   cases decide (p=hank)<;>simp only [cond_true,cond_false]<;>omega
  rw [eachS,hstep,bsm,show (v:Int)+1=((v+1:Nat):Int) by omega,p106_loop ok hank ps (v+1) _ (c+30) (by omega) (by omega) (by omega) (by omega),cutS,Int.add_assoc]
theorem p106 {b:HairBook} (ok:OkH b) {plan:List Int} (hl:plan.length≤2*b.Horses.length) (hank:Int):g106 b plan hank=some (cutS b plan 0 hank):=by
 have h3:=ok.l3
 have:=p106_loop ok hank plan 0 0 0 (by omega) (by omega) (by omega) (by omega)
 rw [show ((0:Nat):Int)=0 from rfl] at this
 unfold g106
 rw [this,bsm,Int.zero_add]
theorem p104 {b:HairBook} (ok:OkH b) {plan:List Int} (hl:plan.length≤2*b.Horses.length):g104 b plan false=some (fitP b (·.Low) plan):=by
 have:=eachC_zip (f:=g104_2 b plan false) (fun y=>!decide (y.1.Weight.Low<cutS b plan 0 (y.2:Int))) false b.Hanks 0 (fun j x hj hx=>by
  unfold g104_2
  rw [p106 ok hl]
  simp only [cond_false,bsm]
  cases decide (x.Weight.Low<cutS b plan 0 (j:Int))<;>rfl)
 rw [show ((0:Nat):Int)=0 from rfl] at this
 unfold g104
 rw [this]
 unfold fitP
 cases b.Hanks.zipIdx.all fun y=>!decide (y.1.Weight.Low<cutS b plan 0 (y.2:Int))<;>rfl
theorem p69 {b:HairBook} (ok:OkH b) {plan:List Int} (hp:PlanOk b plan):g69 b plan=some (worksB b plan):=by
 have h3:=ok.l3
 have hl:=hp.len
 have l2:=eachC_zip (f:=g69_2 b plan) (fun y=>(dyesF b y.1.Shade ((plan[2*y.2]?).getD 0) ((plan[2*y.2+1]?).getD 0)).isSome) false b.Horses 0 (fun j x hj hx=>by
  rw [Nat.sub_zero] at hx
  have hlt:=(List.getElem?_eq_some_iff.1 hx).1
  have i1:2*j<plan.length:=by omega
  have i2:2*j+1<plan.length:=by omega
  have r1:=hp.rng _ (List.getElem_mem i1)
  have r2:=hp.rng _ (List.getElem_mem i2)
  have hws:=(ok.horses x (List.mem_of_getElem? hx)).2.2
  unfold g69_2
  rw [wr_in (show -9223372036854775808≤2*(j:Int) by omega) (by omega),wr_in (show -9223372036854775808≤2*(j:Int)+1 by omega) (by omega),show 2*(j:Int)=((2*j:Nat):Int) by omega,show ((2*j:Nat):Int)+1=((2*j+1:Nat):Int) by omega,
   ixL_nat,ixL_nat,List.getElem?_eq_getElem i1,List.getElem?_eq_getElem i2]
  simp only [bsm]
  rw [p62 ok (horse:=(j:Int)) (p:=x) (by rw [ixL_nat];exact hx) hws (by omega) (by omega) (by omega) (by omega)]
  simp only [bsm,List.getElem?_eq_getElem i1,List.getElem?_eq_getElem i2,Option.getD_some]
  cases dyesF b x.Shade plan[2*j] plan[2*j+1]<;>rfl)
 rw [show ((0:Nat):Int)=0 from rfl] at l2
 unfold g69
 rw [l2,p104 ok (by omega)]
 unfold worksB dyeK
 rw [show fitP b (·.Low) plan=fitK b plan from rfl]
 cases b.Horses.zipIdx.all (fun y=>(dyesF b y.1.Shade ((plan[2*y.2]?).getD 0) ((plan[2*y.2+1]?).getD 0)).isSome) with
 | false=>simp [bindC]
 | true=>simp [bindC,bsm]
theorem partN_pos {b:HairBook} (ok:OkH b) {v:Nat} (h:v<2*b.Horses.length):1≤partN b v:=by
 have hlt:v / 2<b.Horses.length:=by omega
 have hx:=ok.horses _ (List.getElem_mem hlt)
 unfold partN
 rw [List.getElem?_eq_getElem hlt]
 simp only
 cases decide (v % 2=0)<;>simp only [cond_true,cond_false]<;>omega
theorem cutS_pos {b:HairBook} (ok:OkH b) (k:Int):∀ (ps:List Int) (v:Nat),v+ps.length≤2*b.Horses.length→(0<cutS b ps v k↔k∈ps)
 | [],v,h=>by simp [cutS]
 | p::ps,v,h=>by
  simp only [List.length_cons] at h
  have h1:=partN_pos ok (show v<2*b.Horses.length by omega)
  have h2:=cutS_bd ok k ps (v+1)
  have ih:=cutS_pos ok k ps (v+1) (by omega)
  rw [cutS,List.mem_cons]
  by_cases e:p=k
  ·rw [decide_eq_true e,cond_true]
   exact ⟨fun _=>.inl e.symm,fun _=>by omega⟩
  ·rw [decide_eq_false e,cond_false,Int.zero_add,ih]
   exact ⟨fun h=>.inr h,fun h=>h.resolve_left fun h=>e h.symm⟩
end Go.Proofs.YtonjadhpjkbhnaaDoor
set_option maxRecDepth 100000
namespace Go.Proofs.YtonjadhpjkbhnaaDoor
open Go Go.Abs Go.Proofs.Th
theorem p109 (l:List Int) (n:Int) (h:l.length≤100):g109 l n=some (l++[n]):=by
 have hmk:mkL2 8 0 ((l.length:Int)+1) (0:Int)=some []:=by
  unfold mkL2
  have:(decide ((0:Int)≤0)&&(decide ((0:Int)≤(l.length:Int)+1)&&(decide (((8:Nat):Int)*((l.length:Int)+1)≤281474976710656)&&decide ((l.length:Int)+1≤9223372036854775807))))=true:=by
   simp only [Bool.and_eq_true,decide_eq_true_eq];omega
  rw [this];simp
 unfold g109
 rw [wr_in (by omega) (by omega),hmk,bsm,appL_ok (by rw [List.nil_append];omega),bsm,List.nil_append,appL_ok (by rw [List.length_append,List.length_singleton];omega),bsm]
def okSp (b:HairBook) (p:List Int):Bool:=fitP b (·.Low) p&&bif decide (2*b.Horses.length≤p.length) then dyeK b p else true
theorem dyeK_snoc {b:HairBook} {p:List Int} (k:Int) (h:2*b.Horses.length≤p.length):dyeK b (p++[k])=dyeK b p:=by
 unfold dyeK
 refine all_congr fun y hy=>?_
 have hlt:y.2<b.Horses.length:=by
  rw [List.mem_iff_getElem?] at hy
  obtain ⟨j,hj⟩:=hy
  rw [List.getElem?_zipIdx] at hj
  cases hx:b.Horses[j]? with
  | none=>rw [hx] at hj;cases hj
  | some x=>
   rw [hx] at hj
   simp only [Option.map_some,Option.some.injEq,Nat.zero_add] at hj
   subst hj
   exact (List.getElem?_eq_some_iff.1 hx).1
 rw [List.getElem?_append_left (by omega),List.getElem?_append_left (by omega)]
theorem okSp_pre {b:HairBook} (ok:OkH b) (p:List Int) (k:Int) (h:okSp b (p++[k])=true):okSp b p=true:=by
 unfold okSp at h ⊢
 rw [Bool.and_eq_true] at h ⊢
 refine ⟨fitP_pre ok h.1,?_⟩
 by_cases hl:2*b.Horses.length≤p.length
 ·have h2:=h.2
  rw [decide_eq_true (by rw [List.length_append];omega),cond_true,dyeK_snoc k hl] at h2
  rw [decide_eq_true hl,cond_true,h2]
 ·rw [decide_eq_false hl,cond_false]
theorem tr_len {K:Nat} (hK:K≤5) (ok:List Int→Bool):∀ (n:Nat) (p:List Int),(tr K ok n p).length≤5 ^ n
 | 0,p=>by rw [tr];cases ok p<;>simp
 | n+1,p=>by
  rw [tr]
  cases ok p with
  | false=>simp
  | true=>
   have:∀ (xs:List Nat),(xs.flatMap fun (k:Nat)=>tr K ok n (p++[(k:Int)])).length≤5 ^ n*xs.length:=by
    intro xs
    induction xs with
    | nil=>simp
    | cons x xs ih=>
     have h1:=tr_len hK ok n (p++[(x:Int)])
     rw [List.flatMap_cons,List.length_append,List.length_cons,Nat.mul_succ]
     omega
   have h2:=this (List.range' 0 K)
   rw [List.length_range'] at h2
   rw [cond_true,Nat.pow_succ]
   exact Nat.le_trans h2 (Nat.mul_le_mul_left _ hK)
theorem eachS_flat {α A:Type} {f:Int→α→List A→Option (List A)} (L:Nat→List A) (M:Nat) (hM:∀ j,(L j).length≤M):∀ (xs:List α) (i:Nat) (acc:List A),(∀ (j:Nat) x acc,i≤j→j<i+xs.length→acc.length+M≤100000→f (j:Int) x acc=some (acc++L j))→acc.length+M*xs.length≤100000→eachS f xs (i:Int) acc=some (acc++(List.range' i xs.length).flatMap L)
 | [],i,acc,h,hl=>by simp [eachS]
 | x::xs,i,acc,h,hl=>by
  rw [List.length_cons,Nat.mul_succ] at hl
  have:=hM i
  rw [eachS,h i x acc (Nat.le_refl _) (by simp) (by omega),bsm,show (i:Int)+1=((i+1:Nat):Int) by omega,eachS_flat L M hM xs (i+1) (acc++L i) (fun j y acc h1 h2=>h j y acc (by omega) (by simp only [List.length_cons];omega)) (by rw [List.length_append];omega),List.length_cons,List.range'_succ,List.flatMap_cons,List.append_assoc]
theorem p82 {b:HairBook} (ok:OkH b):∀ (n fuel:Nat) (p:List Int),p.length+n=2*b.Horses.length→n+1≤fuel→(∀ x,x∈p→0≤x∧x<b.Hanks.length)→g82 fuel b p=some (tr b.Hanks.length (okSp b) n p)
 | 0,fuel,p,hl,hf,hr=>by
  have h3:=ok.l3
  obtain ⟨fuel,rfl⟩:∃ j,fuel=j+1:=⟨fuel - 1,by omega⟩
  rw [g82,p104 ok (by omega),bsm,tr]
  cases hfit:fitP b (·.Low) p with
  | false=>
   have:okSp b p=false:=by unfold okSp;rw [hfit];rfl
   rw [this];rfl
  | true=>
   have:okSp b p=worksB b p:=by
    unfold okSp worksB
    rw [hfit,decide_eq_true (by omega),cond_true,show fitK b p=fitP b (·.Low) p from rfl,hfit]
   rw [this,wr_in (by omega) (by omega),decide_eq_true (show (p.length:Int)=2*(b.Horses.length:Int) by omega)]
   simp only [Bool.not_true,cond_false,cond_true,p69 ok ⟨by omega,hr⟩,bsm]
   cases worksB b p<;>rfl
 | n+1,fuel,p,hl,hf,hr=>by
  have h3:=ok.l3
  have h4:=ok.l4
  obtain ⟨fuel,rfl⟩:∃ j,fuel=j+1:=⟨fuel - 1,by omega⟩
  rw [g82,p104 ok (by omega),bsm,tr]
  cases hfit:fitP b (·.Low) p with
  | false=>
   have:okSp b p=false:=by unfold okSp;rw [hfit];rfl
   rw [this];rfl
  | true=>
   have:okSp b p=true:=by
    unfold okSp
    rw [hfit,decide_eq_false (by omega)];rfl
   have h5n:5 ^ n≤3125:=Nat.le_trans (Nat.pow_le_pow_right (by decide) (show n≤5 by omega)) (by decide)
   rw [this,cond_true,wr_in (by omega) (by omega),decide_eq_false (show ¬ (p.length:Int)=2*(b.Horses.length:Int) by omega)]
   have hm:5 ^ n*b.Hanks.length≤3125*5:=Nat.mul_le_mul h5n h4
   have:=eachS_flat (f:=g82_14 (g82 fuel) b p) (fun j=>tr b.Hanks.length (okSp b) n (p++[(j:Int)])) (5 ^ n) (fun j=>tr_len h4 _ n _) b.Hanks 0 [] (fun j x acc h1 h2 ha=>by
    have hlen:=tr_len h4 (okSp b) n (p++[(j:Int)])
    unfold g82_14
    rw [p109 p _ (by omega),bsm,p82 ok n fuel (p++[(j:Int)]) (by rw [List.length_append,List.length_singleton];omega) (by omega) (fun x hx=>by
     rcases List.mem_append.1 hx with hx | hx
     ·exact hr x hx
     ·rw [List.mem_singleton] at hx;omega),bsm,appL_ok (by rw [List.length_append];omega),bsm]) (by simp only [List.length_nil];omega)
   rw [show ((0:Nat):Int)=0 from rfl,List.nil_append] at this
   simp only [Bool.not_true,cond_false]
   rw [this]
   rfl
theorem p82_all {b:HairBook} (ok:OkH b):g82 1000 b ([]:List Int)=some (plansL b (·.Low)):=by
 have h3:=ok.l3
 rw [p82 ok (2*b.Horses.length) 1000 [] (by simp) (by omega) (by simp),tr_eq (okSp_pre ok)]
 unfold plansL
 congr 1
 refine List.filter_congr fun q hq=>?_
 obtain ⟨h1,h2⟩:=planB_iff.1 (mem_allP.1 hq)
 unfold okSp okP
 rw [decide_eq_true (by omega),cond_true,dyeQ_full h1]
theorem p85 {b:HairBook} (ok:OkH b):g85 b=some (servedB b):=by
 unfold g85
 rw [p82_all ok,bsm]
 unfold servedB
 cases plansL b (·.Low) with
 | nil=>rfl
 | cons q l=>simp
end Go.Proofs.YtonjadhpjkbhnaaDoor
namespace Go.Proofs.YtonjadhpjkbhnaaDoor
open Go Go.Abs Go.Proofs.Th
theorem cutS_horses {b x:HairBook} (h:x.Horses=b.Horses):∀ (ps:List Int) (v:Nat) (k:Int),cutS x ps v k=cutS b ps v k
 | [],v,k=>rfl
 | p::ps,v,k=>by
  rw [cutS,cutS,cutS_horses h ps]
  unfold partN
  rw [h]
theorem cutS_no {b:HairBook} (k:Int):∀ (ps:List Int) (v:Nat),¬ k∈ps→cutS b ps v k=0
 | [],v,h=>rfl
 | p::ps,v,h=>by
  rw [List.mem_cons,not_or] at h
  rw [cutS,cutS_no k ps _ h.2,decide_eq_false (fun e=>h.1 e.symm)]
  rfl
theorem dyesF_of {b:HairBook} {want mane tail m t:Int} (m1:0≤m) (m2:m≤b.Dark) (t1:0≤t) (t2:t≤b.Dark) (h:mB b want mane tail m t=true):(dyesF b want mane tail).isSome=true:=by
 unfold dyesF
 rw [Option.isSome_map]
 cases hf:firstI (fun m=>(firstI (fun t=>mB b want mane tail m t) (b.Dark+1).toNat 0).isSome) (b.Dark+1).toNat 0 with
 | some m=>rfl
 | none=>
  have h1:=firstI_none.1 hf m m1 (by omega)
  cases hg:firstI (fun t=>mB b want mane tail m t) (b.Dark+1).toNat 0 with
  | some t=>rw [hg] at h1;cases h1
  | none=>
   have h2:=firstI_none.1 hg t t1 (by omega)
   rw [h] at h2;cases h2
theorem dyeK_rel {b x:HairBook} (hor:x.Horses=b.Horses) (near:x.Near=b.Near) (mat:x.Match=b.Match) (dark:b.Dark≤x.Dark) {q:List Int} (hl:q.length=2*b.Horses.length) (hs:∀ n,n∈q→∀ j,(shOf b n j).Low≤(shOf x n j).Low∧(shOf x n j).High≤(shOf b n j).High) (h:dyeK b q=true):dyeK x q=true:=by
 unfold dyeK at h ⊢
 rw [hor]
 rw [List.all_eq_true] at h ⊢
 intro y hy
 have hd:=h y hy
 have hlt:y.2<b.Horses.length:=by
  rw [List.mem_iff_getElem?] at hy
  obtain ⟨j,hj⟩:=hy
  rw [List.getElem?_zipIdx] at hj
  cases hx:b.Horses[j]? with
  | none=>rw [hx] at hj;cases hj
  | some z=>
   rw [hx] at hj
   simp only [Option.map_some,Option.some.injEq,Nat.zero_add] at hj
   subst hj
   exact (List.getElem?_eq_some_iff.1 hx).1
 have i1:2*y.2<q.length:=by omega
 have i2:2*y.2+1<q.length:=by omega
 rw [List.getElem?_eq_getElem i1,List.getElem?_eq_getElem i2,Option.getD_some,Option.getD_some] at hd ⊢
 have s1:=hs _ (List.getElem_mem i1)
 have s2:=hs _ (List.getElem_mem i2)
 obtain ⟨d,hd⟩:=Option.isSome_iff_exists.1 hd
 obtain ⟨d1,d2,d3,d4,d5⟩:=dyesF_some hd
 refine dyesF_of d1 (by omega) d3 (by omega) ?_
 have a1:=s1 d.1
 have a2:=s2 d.2
 unfold mB nearB at d5 ⊢
 rw [near,mat]
 by_cases e:q[2*y.2]=q[2*y.2+1]
 ·rw [decide_eq_true e] at d5 ⊢
  simp only [cond_true,Bool.and_eq_true,decide_eq_true_eq] at d5 ⊢
  omega
 ·rw [decide_eq_false e] at d5 ⊢
  simp only [cond_false,Bool.and_eq_true,decide_eq_true_eq] at d5 ⊢
  omega
def hasP (b:HairBook) (by_:Span→Int):Bool:=!(plansL b by_).isEmpty
theorem mem_plansG {b:HairBook} {by_:Span→Int} {p:List Int}:p∈plansL b by_↔planB b p=true∧fitP b by_ p=true∧dyeK b p=true:=by
 unfold plansL
 rw [List.mem_filter,mem_allP]
 constructor
 ·rintro ⟨h1,h2⟩
  unfold okP at h2
  rw [dyeQ_full (planB_iff.1 h1).1,Bool.and_eq_true] at h2
  exact ⟨h1,h2⟩
 ·rintro ⟨h1,h2⟩
  refine ⟨h1,?_⟩
  unfold okP
  rw [dyeQ_full (planB_iff.1 h1).1,Bool.and_eq_true]
  exact h2
theorem has_iff {b:HairBook} {by_:Span→Int}:hasP b by_=true↔∃ q,planB b q=true∧fitP b by_ q=true∧dyeK b q=true:=by
 unfold hasP
 constructor
 ·intro h
  cases hl:plansL b by_ with
  | nil=>rw [hl] at h;cases h
  | cons p l=>exact ⟨p,mem_plansG.1 (by rw [hl];simp)⟩
 ·rintro ⟨p,hp⟩
  cases hl:plansL b by_ with
  | nil=>have:=mem_plansG.2 hp;rw [hl] at this;cases this
  | cons q l=>rfl
structure SubH (b x:HairBook):Prop where
 hor:x.Horses=b.Horses
 near:x.Near=b.Near
 mat:x.Match=b.Match
 dark:b.Dark≤x.Dark
 hank:∀ (k:Nat) h,b.Hanks[k]?=some h→∃ h',x.Hanks[k]?=some h'∧h.Shade.Low≤h'.Shade.Low∧h'.Shade.High≤h.Shade.High
theorem SubH.planH {b x:HairBook} (S:SubH b x) {q:List Int} (h:planB b q=true):planB x q=true:=by
 rw [planB_iff] at h ⊢
 refine ⟨by rw [S.hor];exact h.1,fun n hn=>?_⟩
 have hb:=h.2 n hn
 obtain ⟨h',e,_⟩:=S.hank n.toNat _ (List.getElem?_eq_getElem (show n.toNat<b.Hanks.length by omega))
 have:=(List.getElem?_eq_some_iff.1 e).1
 omega
theorem SubH.dyeH {b x:HairBook} (S:SubH b x) {q:List Int} (hp:planB b q=true) (h:dyeK b q=true):dyeK x q=true:=by
 obtain ⟨h1,h2⟩:=planB_iff.1 hp
 refine dyeK_rel S.hor S.near S.mat S.dark h1 (fun n hn j=>?_) h
 have hb:=h2 n hn
 have e0:=List.getElem?_eq_getElem (show n.toNat<b.Hanks.length by omega)
 obtain ⟨h',e,l1,l2⟩:=S.hank n.toNat _ e0
 unfold shOf
 rw [e0,e]
 simp only
 omega
theorem SubH.hasH {b x:HairBook} (S:SubH b x) {by_ by2:Span→Int} (hw:∀ (k:Nat) h h',b.Hanks[k]?=some h→x.Hanks[k]?=some h'→by_ h.Weight≤by2 h'.Weight) (hn:∀ h',h'∈x.Hanks→0≤by2 h'.Weight) (h:hasP b by_=true):hasP x by2=true:=by
 obtain ⟨q,h1,h2,h3⟩:=has_iff.1 h
 refine has_iff.2 ⟨q,S.planH h1,?_,S.dyeH h1 h3⟩
 rw [fitP_iff] at h2 ⊢
 intro k y hy
 rw [cutS_horses S.hor]
 cases hx:b.Hanks[k]? with
 | some z=>
  have:=h2 k z hx
  have:=hw k z y hx hy
  omega
 | none=>
  rw [List.getElem?_eq_none_iff] at hx
  rw [cutS_no]
  ·exact hn y (List.mem_of_getElem? hy)
  ·intro hc
   have:=(planB_iff.1 h1).2 _ hc
   omega
def wB (b:HairBook) (w s:Int):HairBook:=⟨b.Hanks++[⟨⟨w,w⟩,⟨s,s⟩⟩],b.Horses,b.Dark,b.Near,b.Match⟩
theorem p90 (b:HairBook) (h:b.Hanks.length≤100) (w s:Int):g90 b w s=some (wB b w s):=by
 unfold g90
 rw [appL_ok (by rw [List.nil_append];omega),bsm,List.nil_append]
 simp only [g40,bsm]
 rw [appL_ok (by rw [List.length_append,List.length_singleton];omega)]
 rfl
theorem wB_get {b:HairBook} {w s:Int} {k:Nat} {h:HairHank} (e:(wB b w s).Hanks[k]?=some h):(b.Hanks[k]?=some h∧k<b.Hanks.length)∨(k=b.Hanks.length∧h=⟨⟨w,w⟩,⟨s,s⟩⟩):=by
 unfold wB at e
 simp only at e
 by_cases hk:k<b.Hanks.length
 ·rw [List.getElem?_append_left hk] at e
  exact .inl ⟨e,hk⟩
 ·rw [List.getElem?_append_right (by omega)] at e
  have:k - b.Hanks.length=0:=by
   have:=(List.getElem?_eq_some_iff.1 e).1
   simp at this;omega
  rw [this] at e
  refine .inr ⟨by omega,?_⟩
  simpa using e.symm
theorem wB_at (b:HairBook) (w s:Int):(wB b w s).Hanks[b.Hanks.length]?=some ⟨⟨w,w⟩,⟨s,s⟩⟩:=by
 unfold wB
 simp
theorem wB_lt {b:HairBook} (w s:Int) {k:Nat} (hk:k<b.Hanks.length):(wB b w s).Hanks[k]?=b.Hanks[k]?:=by
 unfold wB
 simp only
 rw [List.getElem?_append_left hk]
theorem wB_len (b:HairBook) (w s:Int):(wB b w s).Hanks.length=b.Hanks.length+1:=by
 unfold wB;simp
theorem wB_sub2 (b:HairBook) (w v s:Int):SubH (wB b w s) (wB b v s):=⟨rfl,rfl,rfl,Int.le_refl _,fun k h e=>by
 rcases wB_get e with ⟨e,hk⟩ | ⟨rfl,rfl⟩
 ·exact ⟨h,by rw [wB_lt v s hk];exact e,Int.le_refl _,Int.le_refl _⟩
 ·exact ⟨_,wB_at b v s,Int.le_refl _,Int.le_refl _⟩⟩
theorem OkH_wB {b:HairBook} (hok:okH b=true) {w s:Int} (w1:1≤w) (w2:w≤60) (s1:0≤s) (s2:s≤20):OkH (wB b w s):=by
 have ok:=okH_of hok
 have h4:=okH_l4 hok
 refine ⟨by rw [wB_len];omega,ok.l3,ok.dark,ok.near,ok.mat,fun x hx=>?_,ok.horses⟩
 rcases List.mem_append.1 hx with hx | hx
 ·exact ok.hanks x hx
 ·rw [List.mem_singleton] at hx
  subst hx
  exact ⟨⟨w1,Int.le_refl _,w2⟩,s1,Int.le_refl _,s2⟩
theorem wB_mono {b:HairBook} (ok:OkH b) {v w s:Int} (h0:0≤v) (h:v≤w) (hs:servedB (wB b v s)=true):servedB (wB b w s)=true:=
 (wB_sub2 b v w s).hasH (by_:=fun s=>s.Low) (by2:=fun s=>s.Low) (fun k h h' e1 e2=>by
  rcases wB_get e1 with ⟨e1,k1⟩ | ⟨rfl,rfl⟩
  ·rcases wB_get e2 with ⟨e2,k2⟩ | ⟨rfl,rfl⟩
   ·rw [e1] at e2;cases e2;exact Int.le_refl _
   ·omega
  ·rcases wB_get e2 with ⟨e2,k2⟩ | ⟨_,rfl⟩
   ·omega
   ·exact h) (fun h' hh=>by
  rcases List.mem_append.1 hh with hh | hh
  ·have:=(ok.hanks h' hh).w;omega
  ·rw [List.mem_singleton] at hh
   subst hh
   simp only;omega) hs
theorem with_iff {b:HairBook} (ok:OkH b) {v s:Int} (h0:0≤v) (h60:v≤60):servedB (wB b v s)=true↔∃ q,q∈plansL (wB b 60 s) (·.Low)∧cutS (wB b 60 s) q 0 (b.Hanks.length:Int)≤v:=by
 constructor
 ·intro h
  obtain ⟨q,h1,h2,h3⟩:=has_iff.1 (show hasP (wB b v s) (fun s=>s.Low)=true from h)
  have hS:=wB_sub2 b v 60 s
  have hc:∀ k:Int,cutS (wB b 60 s) q 0 k=cutS (wB b v s) q 0 k:=fun k=>cutS_horses (b:=wB b v s) (x:=wB b 60 s) rfl q 0 k
  rw [fitP_iff] at h2
  have hK:=h2 b.Hanks.length _ (wB_at b v s)
  refine ⟨q,mem_plansG.2 ⟨hS.planH h1,fitP_iff.2 fun k x hx=>?_,hS.dyeH h1 h3⟩,by rw [hc];exact hK⟩
  rw [hc]
  rcases wB_get hx with ⟨hx,hk⟩ | ⟨rfl,rfl⟩
  ·exact h2 k x (by rw [wB_lt v s hk];exact hx)
  ·simp only at hK ⊢;omega
 ·rintro ⟨q,hq,hle⟩
  obtain ⟨h1,h2,h3⟩:=mem_plansG.1 hq
  have hS:=wB_sub2 b 60 v s
  have hc:∀ k:Int,cutS (wB b v s) q 0 k=cutS (wB b 60 s) q 0 k:=fun k=>cutS_horses (b:=wB b 60 s) (x:=wB b v s) rfl q 0 k
  rw [fitP_iff] at h2
  refine has_iff.2 ⟨q,hS.planH h1,fitP_iff.2 fun k x hx=>?_,hS.dyeH h1 h3⟩
  rw [hc]
  rcases wB_get hx with ⟨hx,hk⟩ | ⟨rfl,rfl⟩
  ·exact h2 k x (by rw [wB_lt 60 s hk];exact hx)
  ·exact hle
theorem with0_lt {b:HairBook} (ok:OkH b) {s:Int} {q:List Int} (q1:q.length=2*b.Horses.length) (q2:∀ n,n∈q→0≤n∧n<(b.Hanks.length:Int)+1) (hle:cutS b q 0 (b.Hanks.length:Int)≤0):∀ n,n∈q→0≤n∧n<b.Hanks.length:=fun n hn=>by
 have hb:=q2 n hn
 refine ⟨hb.1,?_⟩
 by_cases e:n=(b.Hanks.length:Int)
 ·have:=(cutS_pos ok (b.Hanks.length:Int) q 0 (by omega)).2 (by rw [← e];exact hn)
  omega
 ·omega
theorem with0 {b:HairBook} (ok:OkH b) {s:Int} (h:servedB (wB b 0 s)=true):servedB b=true:=by
 obtain ⟨q,hq,hle⟩:=(with_iff ok (Int.le_refl 0) (by omega)).1 h
 obtain ⟨h1,h2,h3⟩:=mem_plansG.1 hq
 obtain ⟨q1,q2⟩:=planB_iff.1 h1
 rw [cutS_horses (b:=b) (x:=wB b 60 s) rfl] at hle
 rw [wB_len] at q2
 rw [show (wB b 60 s).Horses=b.Horses from rfl] at q1
 have hlt:=with0_lt ok (s:=s) q1 (fun n hn=>by have:=q2 n hn;omega) hle
 rw [fitP_iff] at h2
 have hsh:∀ n,n∈q→∀ j,shOf (wB b 60 s) n j=shOf b n j:=fun n hn j=>by
  have hb:=hlt n hn
  unfold shOf
  rw [wB_lt 60 s (show n.toNat<b.Hanks.length by omega)]
 have hd:dyeK b q=true:=dyeK_rel (b:=wB b 60 s) (x:=b) rfl rfl rfl (Int.le_refl _) q1 (fun n hn j=>by
  rw [hsh n hn j];exact ⟨Int.le_refl _,Int.le_refl _⟩) h3
 have hf:fitP b (fun s=>s.Low) q=true:=fitP_iff.2 fun k x hx=>by
  have:=h2 k x (by rw [wB_lt 60 s (List.getElem?_eq_some_iff.1 hx).1];exact hx)
  rw [cutS_horses (b:=b) (x:=wB b 60 s) rfl] at this
  exact this
 exact has_iff.2 ⟨q,planB_iff.2 ⟨q1,hlt⟩,hf,hd⟩
def BuyIs (b:HairBook) (s:Int) (r:Int×Int):Prop:=(servedB b=true∧r=(0,0))∨(servedB b=false∧servedB (wB b 60 s)=false∧r=(0,4)) ∨
 ∃ w,1≤w∧w≤60∧servedB b=false∧r=(w,0)∧servedB (wB b w s)=true∧∀ v,0≤v→v<w→servedB (wB b v s)=false
theorem foldl_min {α:Type} (f:α→Int):∀ (l:List α) (n:Int),let m:=l.foldl (fun v q=>min v (f q)) n;m≤n∧(∀ q,q∈l→m≤f q)∧(m=n∨∃ q,q∈l∧m=f q)
 | [],n=>⟨Int.le_refl _,by simp,.inl rfl⟩
 | a::l,n=>by
  obtain ⟨h1,h2,h3⟩:=foldl_min f l (min n (f a))
  simp only [List.foldl_cons]
  refine ⟨by omega,fun q hq=>?_,?_⟩
  ·rcases List.mem_cons.1 hq with rfl | hq
   ·omega
   ·exact h2 q hq
  ·rcases h3 with h3 | ⟨q,hq,h3⟩
   ·by_cases e:n≤f a
    ·left;omega
    ·right;exact ⟨a,by simp,by omega⟩
   ·right;exact ⟨q,by simp [hq],h3⟩
theorem p31 {b:HairBook} (hok:okH b=true) {s:Int} (s1:0≤s) (s2:s≤20):∃ r,BuyIs b s r∧g31 b s=some r:=by
 have ok:=okH_of hok
 have h4:=okH_l4 hok
 obtain ⟨mf,e80,hmf⟩:=p80 ok
 have e55:g55d b s=some (.brk (b,mf,0)):=by
  unfold g55d g87
  rw [p17,hok,bsm]
  simp only [cond_true,ne_eq,not_true_eq_false,decide_false,cond_false,e80,bsm,p57,rg_iff.2 (show 0≤s∧s≤20 from ⟨s1,s2⟩),Bool.not_true]
 unfold g31
 rw [e55,bsm]
 simp only [ne_eq,not_true_eq_false,decide_false,cond_false,p84 ok hmf,bsm]
 cases hv:servedB b with
 | true=>exact ⟨(0,0),.inl ⟨hv,rfl⟩,rfl⟩
 | false=>
  have okU:=OkH_wB hok (w:=60) (by omega) (by omega) s1 s2
  obtain ⟨mU,e80U,hmU⟩:=p80 okU
  simp only [cond_false,slcL_all,bsm]
  rw [appL_ok (by rw [List.length_append,List.length_singleton];omega),bsm]
  rw [show HairBook.mk (b.Hanks++[HairHank.mk (Span.mk 60 60) (Span.mk s s)]) b.Horses b.Dark b.Near b.Match=wB b 60 s from rfl,e80U]
  simp only [g76,g88,bsm]
  rw [p111 _ okU hmU]
  have hr:=runY_fold (B:=fun q u=>g31_r22 (b.Hanks++[HairHank.mk (Span.mk 60 60) (Span.mk s s)]) (q,cutF (wB b 60 s) q) u) (X:=Unit) (fun v q=>min v (cutS (wB b 60 s) q 0 (b.Hanks.length:Int))) (plansL (wB b 60 s) (·.Low)) 61 (fun q u hq=>by
   unfold g31_r22
   simp only
   rw [List.length_append,List.length_singleton,wr_in (by omega) (by omega),show ((b.Hanks.length+1:Nat):Int) - 1=((b.Hanks.length:Nat):Int) by omega,ixN_nat (by omega)]
   rfl)
  have e:runY (fun q s_1=>rndC (g31_r22 (b.Hanks++[HairHank.mk (Span.mk 60 60) (Span.mk s s)])) (q,cutF (wB b 60 s) q) s_1) (plansL (wB b 60 s) (·.Low)) (.next 61)=runY (fun a s_1=>rndC (fun q u=>g31_r22 (b.Hanks++[HairHank.mk (Span.mk 60 60) (Span.mk s s)]) (q,cutF (wB b 60 s) q) u) a s_1) (plansL (wB b 60 s) (·.Low)) (.next 61):=by
   congr 1
  rw [e,hr]
  obtain ⟨m1,m2,m3⟩:=foldl_min (fun q=>cutS (wB b 60 s) q 0 (b.Hanks.length:Int)) (plansL (wB b 60 s) (·.Low)) 61
  generalize hn:(plansL (wB b 60 s) (·.Low)).foldl (fun v q=>min v (cutS (wB b 60 s) q 0 (b.Hanks.length:Int))) 61=n at m1 m2 m3
  simp only [Option.map_some,bsm]
  by_cases h60:60<n
  ·rw [decide_eq_true h60,cond_true]
   refine ⟨(0,4),.inr (.inl ⟨hv,?_,rfl⟩),rfl⟩
   cases hu:servedB (wB b 60 s) with
   | false=>rfl
   | true=>
    obtain ⟨q,hq,hle⟩:=(with_iff ok (by omega) (by omega)).1 hu
    have:=m2 q hq
    omega
  ·rw [decide_eq_false h60,cond_false]
   rcases m3 with m3 | ⟨q,hq,m3⟩
   ·omega
   ·have hc:=cutS_bd okU (b.Hanks.length:Int) q 0
    have hno:∀ v,0≤v→v<n→servedB (wB b v s)=false:=fun v v1 v2=>by
     cases hu:servedB (wB b v s) with
     | false=>rfl
     | true=>
      obtain ⟨q',hq',hle⟩:=(with_iff ok v1 (by omega)).1 hu
      have:=m2 q' hq'
      omega
    have hyes:servedB (wB b n s)=true:=(with_iff ok (by omega) (by omega)).2 ⟨q,hq,by omega⟩
    have hn1:1≤n:=by
     by_cases e:n=0
     ·rw [e] at hyes
      have:=with0 ok hyes
      rw [hv] at this;cases this
     ·omega
    exact ⟨(n,0),.inr (.inr ⟨n,hn1,by omega,hv,rfl,hyes,hno⟩),rfl⟩
end Go.Proofs.YtonjadhpjkbhnaaDoor
namespace Go.Proofs.YtonjadhpjkbhnaaDoor
open Go Go.Abs Go.Proofs.Th
theorem BuyIs.uniqB {b:HairBook} (ok:OkH b) {s:Int} {r u:Int×Int} (h:BuyIs b s r) (k:BuyIs b s u):r=u:=by
 rcases h with ⟨h1,rfl⟩ | ⟨h1,h2,rfl⟩ | ⟨w,w1,w2,h1,rfl,h3,h4⟩<;>rcases k with ⟨k1,rfl⟩ | ⟨k1,k2,rfl⟩ | ⟨v,v1,v2,k1,rfl,k3,k4⟩
 ·rfl
 ·rw [h1] at k1;cases k1
 ·rw [h1] at k1;cases k1
 ·rw [h1] at k1;cases k1
 ·rfl
 ·have:=wB_mono ok (by omega) v2 k3
  rw [h2] at this;cases this
 ·rw [h1] at k1;cases k1
 ·have:=wB_mono ok (by omega) w2 h3
  rw [k2] at this;cases this
 ·by_cases e:w=v
  ·rw [e]
  ·by_cases l:w<v
   ·have:=k4 w (by omega) l
    rw [h3] at this;cases this
   ·have:=h4 v (by omega) (by omega)
    rw [k3] at this;cases this
theorem p32_loop {b:HairBook} (hok:okH b=true) {s:Int} (s1:0≤s) (s2:s≤20):∀ (k fuel:Nat),1≤k→k≤60→k+1≤fuel→servedB (wB b k s)=true→∃ w:Int,whileC (g32_19 b s) fuel (k:Int)=some w∧1≤w∧w≤60∧servedB (wB b w s)=true∧(w=1∨servedB (wB b (w - 1) s)=false)
 | 0,fuel,h1,h2,hf,hs=>by omega
 | k+1,fuel,h1,h2,hf,hs=>by
  obtain ⟨fuel,rfl⟩:∃ j,fuel=j+1:=⟨fuel - 1,by omega⟩
  have h4:=okH_l4 hok
  rw [whileC]
  by_cases e:k=0
  ·subst e
   refine ⟨1,?_,by omega,by omega,hs,.inl rfl⟩
   simp only [g32_19]
   rfl
  ·have e1:((k+1:Nat):Int) - 1=(k:Int):=by omega
   simp only [g32_19]
   rw [decide_eq_true (show (1:Int)<((k+1:Nat):Int) by omega),cond_true,wr_in (by omega) (by omega),e1,p90 b (by omega),bsm,p85 (OkH_wB hok (w:=(k:Int)) (by omega) (by omega) s1 s2)]
   simp only [bsm]
   cases hv:servedB (wB b (k:Int) s) with
   | false=>exact ⟨((k+1:Nat):Int),rfl,by omega,by omega,hs,.inr (by rw [e1];exact hv)⟩
   | true=>exact p32_loop hok s1 s2 k fuel (by omega) (by omega) (by omega) hv
theorem p32 {b:HairBook} (hok:okH b=true) {s:Int} (s1:0≤s) (s2:s≤20):∃ r,BuyIs b s r∧g32 b s=some r:=by
 have ok:=okH_of hok
 have h4:=okH_l4 hok
 unfold g32
 rw [p18,hok,bsm]
 simp only [cond_true,ne_eq,not_true_eq_false,decide_false,cond_false,p50,rg_iff.2 (show 0≤s∧s≤20 from ⟨s1,s2⟩),bsm,Bool.not_true,p85 ok]
 cases hv:servedB b with
 | true=>exact ⟨(0,0),.inl ⟨hv,rfl⟩,rfl⟩
 | false=>
  simp only [cond_false]
  rw [p90 b (by omega),bsm,p85 (OkH_wB hok (w:=60) (by omega) (by omega) s1 s2),bsm]
  cases hu:servedB (wB b 60 s) with
  | false=>exact ⟨(0,4),.inr (.inl ⟨hv,hu,rfl⟩),rfl⟩
  | true=>
   obtain ⟨w,e,w1,w2,w3,w4⟩:=p32_loop hok s1 s2 60 1000 (by omega) (by omega) (by omega) hu
   rw [show ((60:Nat):Int)=60 from rfl] at e
   simp only [Bool.not_true,cond_false,e,bsm]
   refine ⟨(w,0),.inr (.inr ⟨w,w1,w2,hv,rfl,w3,fun v v1 v2=>?_⟩),rfl⟩
   cases hx:servedB (wB b v s) with
   | false=>rfl
   | true=>
    have:=wB_mono ok (w:=w - 1) v1 (by omega) hx
    rcases w4 with w4 | w4
    ·rw [w4] at this
     have:=with0 ok (s:=s) this
     rw [hv] at this;cases this
    ·rw [w4] at this;cases this
theorem p31_no {b:HairBook} (hok:okH b=false) (s:Int):g31 b s=some (0,60):=by
 unfold g31 g55d
 rw [p17,hok,bsm]
 rfl
theorem p31_bad {b:HairBook} (hok:okH b=true) {s:Int} (hs:rg s 0 20=false):g31 b s=some (0,61):=by
 have ok:=okH_of hok
 obtain ⟨mf,e80,hmf⟩:=p80 ok
 unfold g31 g55d g87
 rw [p17,hok,bsm]
 simp only [cond_true,ne_eq,not_true_eq_false,decide_false,cond_false,e80,bsm,p57,hs,Bool.not_false]
 rfl
theorem buy_same (b:HairBook) (s:Int):g31 b s=g32 b s:=by
 cases hok:okH b with
 | false=>
  rw [p31_no hok]
  unfold g32
  rw [p18,hok,bsm]
  rfl
 | true=>
  cases hs:rg s 0 20 with
  | false=>
   rw [p31_bad hok hs]
   unfold g32
   rw [p18,hok,bsm]
   simp only [cond_true,ne_eq,not_true_eq_false,decide_false,cond_false,p50,hs,bsm,Bool.not_false]
  | true=>
   rw [rg_iff] at hs
   obtain ⟨r,h1,e1⟩:=p31 hok hs.1 hs.2
   obtain ⟨u,h2,e2⟩:=p32 hok hs.1 hs.2
   rw [e1,e2,BuyIs.uniqB (okH_of hok) h1 h2]
def oneH (h:HairHank) (n:Int):HairHank:=⟨h.Weight,⟨n,n⟩⟩
def setH (b:HairBook) (hs:List HairHank):HairBook:=⟨hs,b.Horses,b.Dark,b.Near,b.Match⟩
def perh (b:HairBook):List HairHank→List HairHank→Bool
 | [],hs=>hasP (setH b hs) (·.High)
 | h::r,hs=>(firstI (fun v=>perh b r (hs++[oneH h (h.Shade.Low+v)])) (h.Shade.High - h.Shade.Low+1).toNat 0).isSome
theorem okS {b:HairBook} (ok:OkH b) {hs:List HairHank} (hl:hs.length≤5) (hh:∀ x,x∈hs→HankOk x):OkH (setH b hs):=⟨hl,ok.l3,ok.dark,ok.near,ok.mat,hh,ok.horses⟩
theorem oneOk {h:HairHank} (hk:HankOk h) {n:Int} (h1:h.Shade.Low≤n) (h2:n≤h.Shade.High):HankOk (oneH h n):=by
 have:=hk.s
 exact ⟨hk.w,by simp only [oneH];omega,by simp [oneH],by simp only [oneH];omega⟩
theorem p91 {b:HairBook} (ok:OkH b) (h4:b.Hanks.length≤4):∀ (r hs:List HairHank) (fuel:Nat),(∀ j x,r[j]?=some x→b.Hanks[hs.length+j]?=some x)→hs.length+r.length=b.Hanks.length→r.length+1≤fuel→(∀ x,x∈hs→HankOk x)→g91 fuel hs b=some (perh b r hs)
 | [],hs,fuel,hr,hl,hf,hh=>by
  obtain ⟨fuel,rfl⟩:∃ j,fuel=j+1:=⟨fuel - 1,by omega⟩
  simp only [List.length_nil,Nat.add_zero] at hl
  have okL:=okS ok (hs:=hs) (by omega) hh
  obtain ⟨mf,e80,hmf⟩:=p80 okL
  rw [g91,decide_eq_true (show (hs.length:Int)=(b.Hanks.length:Int) by omega),cond_true]
  rw [show HairBook.mk hs b.Horses b.Dark b.Near b.Match=setH b hs from rfl,e80]
  simp only [g77,g88a,bsm]
  rw [p111a _ okL hmf]
  have hr:=runY_stop (B:=fun q u=>g91_r11 (q,cutF (setH b hs) q) u) (X:=Unit) () (plansL (setH b hs) (·.High)) () (fun a s=>rfl)
  have e:runY (fun q s=>rndC g91_r11 (q,cutF (setH b hs) q) s) (plansL (setH b hs) (·.High)) (.next ())=runY (fun a s=>rndC (fun q u=>g91_r11 (q,cutF (setH b hs) q) u) a s) (plansL (setH b hs) (·.High)) (.next ()):=by
   congr 1
  rw [e,hr,perh]
  unfold hasP
  cases plansL (setH b hs) (·.High)<;>rfl
 | h::r,hs,fuel,hr,hl,hf,hh=>by
  obtain ⟨fuel,rfl⟩:∃ j,fuel=j+1:=⟨fuel - 1,by omega⟩
  simp only [List.length_cons] at hl hf
  have h0:=hr 0 h (by simp)
  rw [Nat.add_zero] at h0
  have hk:=ok.hanks h (List.mem_of_getElem? h0)
  have hs1:=hk.s
  rw [g91,decide_eq_false (show ¬ (hs.length:Int)=(b.Hanks.length:Int) by omega),cond_false,ixL_nat,h0,bsm]
  rw [wr_in (show -9223372036854775808≤h.Shade.High - h.Shade.Low by omega) (by omega),wr_in (show -9223372036854775808≤h.Shade.High - h.Shade.Low+1 by omega) (by omega),Int.sub_zero]
  have:=forC_firstU (f:=g91_16 (g91 fuel) hs b h) (fun v=>perh b r (hs++[oneH h (h.Shade.Low+v)])) (fun _=>(.brk (.brk true):Ctl Unit (Ctl Unit Bool))) (h.Shade.High - h.Shade.Low+1).toNat 0 (fun v v1 v2=>by
   unfold g91_16
   rw [slcL_all,bsm,wr_in (by omega) (by omega),appL_ok (by rw [List.length_append,List.length_singleton];omega),bsm]
   rw [show HairHank.mk h.Weight (Span.mk (h.Shade.Low+v) (h.Shade.Low+v))=oneH h (h.Shade.Low+v) from rfl]
   rw [p91 ok h4 r (hs++[oneH h (h.Shade.Low+v)]) fuel (fun j x hx=>by
    have:=hr (j+1) x (by rw [List.getElem?_cons_succ];exact hx)
    rw [List.length_append,List.length_singleton,show hs.length+1+j=hs.length+(j+1) by omega];exact this) (by rw [List.length_append,List.length_singleton];omega) (by omega) (fun x hx=>by
    rcases List.mem_append.1 hx with hx | hx
    ·exact hh x hx
    ·rw [List.mem_singleton] at hx
     rw [hx]
     exact oneOk hk (by omega) (by omega)),bsm]
   cases perh b r (hs++[oneH h (h.Shade.Low+v)])<;>rfl)
  rw [this,perh]
  cases firstI (fun v=>perh b r (hs++[oneH h (h.Shade.Low+v)])) (h.Shade.High - h.Shade.Low+1).toNat 0<;>rfl
theorem p33 (b:HairBook):g33 b=some (bif okH b then (perh b b.Hanks [],0) else (false,60)):=by
 unfold g33
 rw [p17,bsm]
 cases hok:okH b with
 | false=>rfl
 | true=>
  have h4:=okH_l4 hok
  simp only [cond_true,ne_eq,not_true_eq_false,decide_false,cond_false]
  rw [p91 (okH_of hok) h4 b.Hanks [] 1000 (fun j x hx=>by rw [List.length_nil,Nat.zero_add];exact hx) (by simp) (by omega) (by simp),bsm]
def up (h:HairHank):HairHank:=⟨⟨h.Weight.High,h.Weight.High⟩,h.Shade⟩
def perS (b:HairBook):List HairHank→List HairHank→Bool
 | [],hs=>servedB (setH b (hs.map up))
 | h::r,hs=>(firstI (fun n=>perS b r (hs++[oneH h n])) (h.Shade.High+1 - h.Shade.Low).toNat h.Shade.Low).isSome
def RelN (b:HairBook) (hs:List HairHank) (ns:List Int):Prop:=hs.length=ns.length∧∀ (k:Nat) n,ns[k]?=some n→∃ h,b.Hanks[k]?=some h∧hs[k]?=some (oneH h n)
theorem RelN.snocN {b:HairBook} {hs:List HairHank} {ns:List Int} (R:RelN b hs ns) {h:HairHank} (hh:b.Hanks[hs.length]?=some h) (n:Int):RelN b (hs++[oneH h n]) (ns++[n]):=by
 obtain ⟨h1,h2⟩:=R
 refine ⟨by rw [List.length_append,List.length_append,h1];rfl,fun k m hm=>?_⟩
 by_cases hk:k<ns.length
 ·rw [List.getElem?_append_left hk] at hm
  obtain ⟨g,e1,e2⟩:=h2 k m hm
  exact ⟨g,e1,by rw [List.getElem?_append_left (by omega)];exact e2⟩
 ·rw [List.getElem?_append_right (by omega)] at hm
  have hk0:k - ns.length=0:=by
   have:=(List.getElem?_eq_some_iff.1 hm).1
   simp at this;omega
  rw [hk0] at hm
  have hkk:k=hs.length:=by omega
  subst hkk
  simp only [List.getElem?_cons_zero,Option.some.injEq] at hm
  subst hm
  exact ⟨h,hh,by simp⟩
theorem p92_loop {b:HairBook} {hs:List HairHank} {ns:List Int} (R:RelN b hs ns) (hl:hs.length≤100):∀ (n k:Nat),k+n=ns.length→eachS (g92_19 b) (ns.drop k) (k:Int) ((hs.take k).map up)=some (hs.map up)
 | 0,k,hk=>by
  obtain ⟨h1,h2⟩:=R
  rw [List.drop_eq_nil_of_le (by omega),List.take_of_length_le (by omega)]
  rfl
 | n+1,k,hk=>by
  obtain ⟨h1,h2⟩:=R
  have hlt:k<ns.length:=by omega
  have hlt2:k<hs.length:=by omega
  obtain ⟨g,e1,e2⟩:=h2 k _ (List.getElem?_eq_getElem hlt)
  rw [List.getElem?_eq_getElem hlt2] at e2
  have e2:=Option.some.inj e2
  have hstep:g92_19 b (k:Int) ns[k] ((hs.take k).map up)=some ((hs.take (k+1)).map up):=by
   unfold g92_19
   rw [ixL_nat,e1,bsm]
   simp only [g40,bsm]
   rw [appL_ok (by rw [List.length_append,List.length_singleton,List.length_map,List.length_take];omega),bsm,List.take_add_one,List.getElem?_eq_getElem hlt2,e2,List.map_append]
   rfl
  rw [List.drop_eq_getElem_cons hlt,eachS,hstep,bsm,show (k:Int)+1=((k+1:Nat):Int) by omega]
  exact p92_loop ⟨h1,h2⟩ hl n (k+1) (by omega)
theorem p92 {b:HairBook} (ok:OkH b) (h4:b.Hanks.length≤4):∀ (r hs:List HairHank) (ns:List Int) (fuel:Nat),RelN b hs ns→(∀ j x,r[j]?=some x→b.Hanks[hs.length+j]?=some x)→hs.length+r.length=b.Hanks.length→r.length+1≤fuel→(∀ x,x∈hs→HankOk x)→g92 fuel b ns=some (perS b r hs)
 | [],hs,ns,fuel,R,hr,hl,hf,hh=>by
  obtain ⟨fuel,rfl⟩:∃ j,fuel=j+1:=⟨fuel - 1,by omega⟩
  simp only [List.length_nil,Nat.add_zero] at hl
  have hl2:=R.1
  have okL:=okS ok (hs:=hs.map up) (by rw [List.length_map];omega) (fun x hx=>by
   rw [List.mem_map] at hx
   obtain ⟨y,hy,rfl⟩:=hx
   have hw:=(hh y hy).w
   exact ⟨⟨by simp only [up];omega,Int.le_refl _,by simp only [up];omega⟩,(hh y hy).s⟩)
  have:=p92_loop R (by omega) ns.length 0 (by omega)
  rw [show ((0:Nat):Int)=0 from rfl,List.drop_zero,List.take_zero,List.map_nil] at this
  rw [g92,decide_eq_false (show ¬ (ns.length:Int)<(b.Hanks.length:Int) by omega),cond_false]
  simp only [bindC]
  rw [this,bsm]
  rw [show HairBook.mk (hs.map up) b.Horses b.Dark b.Near b.Match=setH b (hs.map up) from rfl,p85 okL,perS]
  rfl
 | h::r,hs,ns,fuel,R,hr,hl,hf,hh=>by
  obtain ⟨fuel,rfl⟩:∃ j,fuel=j+1:=⟨fuel - 1,by omega⟩
  simp only [List.length_cons] at hl hf
  have hl2:=R.1
  have h0:=hr 0 h (by simp)
  rw [Nat.add_zero] at h0
  have hk:=ok.hanks h (List.mem_of_getElem? h0)
  have hs1:=hk.s
  rw [g92,decide_eq_true (show (ns.length:Int)<(b.Hanks.length:Int) by omega),cond_true,ixL_nat,← hl2,h0,bsm,must_t (by rw [decide_eq_true_eq];omega),bsm,must_t (by rw [decide_eq_true_eq];omega),bsm]
  have:=forC_firstU (f:=g92_8 (g92 fuel) b ns) (fun n=>perS b r (hs++[oneH h n])) (fun _=>(.brk (.brk (.brk true)):Ctl Unit (Ctl Unit (Ctl Unit Bool)))) (h.Shade.High+1 - h.Shade.Low).toNat h.Shade.Low (fun n n1 n2=>by
   unfold g92_8
   rw [p109 ns n (by omega),bsm]
   rw [p92 ok h4 r (hs++[oneH h n]) (ns++[n]) fuel (R.snocN h0 n) (fun j x hx=>by
    have:=hr (j+1) x (by rw [List.getElem?_cons_succ];exact hx)
    rw [List.length_append,List.length_singleton,show hs.length+1+j=hs.length+(j+1) by omega];exact this) (by rw [List.length_append,List.length_singleton];omega) (by omega) (fun x hx=>by
    rcases List.mem_append.1 hx with hx | hx
    ·exact hh x hx
    ·rw [List.mem_singleton] at hx
     rw [hx]
     exact oneOk hk (by omega) (by omega)),bsm]
   cases perS b r (hs++[oneH h n])<;>rfl)
  rw [this,perS]
  cases firstI (fun n=>perS b r (hs++[oneH h n])) (h.Shade.High+1 - h.Shade.Low).toNat h.Shade.Low<;>rfl
theorem up_get {hs:List HairHank} {k:Nat} {h:HairHank} (e:(hs.map up)[k]?=some h):∃ g,hs[k]?=some g∧h=up g:=by
 rw [List.getElem?_map] at e
 cases hg:hs[k]? with
 | none=>rw [hg] at e;cases e
 | some g=>rw [hg] at e;exact ⟨g,rfl,(Option.some.inj e).symm⟩
theorem per_leaf (b:HairBook) {hs:List HairHank} (hh:∀ x,x∈hs→HankOk x):servedB (setH b (hs.map up))=hasP (setH b hs) (·.High):=by
 have S1:SubH (setH b (hs.map up)) (setH b hs):=⟨rfl,rfl,rfl,Int.le_refl _,fun k h e=>by
  obtain ⟨g,e1,rfl⟩:=up_get e
  exact ⟨g,e1,Int.le_refl _,Int.le_refl _⟩⟩
 have S2:SubH (setH b hs) (setH b (hs.map up)):=⟨rfl,rfl,rfl,Int.le_refl _,fun k h e=>by
  refine ⟨up h,?_,Int.le_refl _,Int.le_refl _⟩
  rw [show (setH b (hs.map up)).Hanks=hs.map up from rfl,List.getElem?_map,show hs[k]?=some h from e]
  rfl⟩
 rw [Bool.eq_iff_iff]
 constructor
 ·intro h
  refine S1.hasH (by_:=fun s=>s.Low) (by2:=fun s=>s.High) (fun k h h' e1 e2=>?_) (fun x hx=>by have:=(hh x hx).w;omega) h
  obtain ⟨g,e3,rfl⟩:=up_get e1
  have:hs[k]?=some h':=e2
  rw [this] at e3
  cases e3
  exact Int.le_refl _
 ·intro h
  refine S2.hasH (by_:=fun s=>s.High) (by2:=fun s=>s.Low) (fun k h h' e1 e2=>?_) (fun x hx=>?_) h
  ·obtain ⟨g,e3,rfl⟩:=up_get e2
   have:hs[k]?=some h:=e1
   rw [this] at e3
   cases e3
   exact Int.le_refl _
  ·rw [show (setH b (hs.map up)).Hanks=hs.map up from rfl,List.mem_map] at hx
   obtain ⟨y,hy,rfl⟩:=hx
   have:=(hh y hy).w
   simp only [up];omega
theorem per_same (b:HairBook):∀ (r hs:List HairHank),(∀ x,x∈r→HankOk x)→(∀ x,x∈hs→HankOk x)→perS b r hs=perh b r hs
 | [],hs,hr,hh=>per_leaf b hh
 | h::r,hs,hr,hh=>by
  have hk:=hr h (by simp)
  rw [perS,perh,show h.Shade.Low=0+h.Shade.Low by omega,show (h.Shade.High+1 - (0+h.Shade.Low)).toNat=(h.Shade.High - (0+h.Shade.Low)+1).toNat by omega,firstI_shift,Option.isSome_map]
  congr 1
  refine firstI_congr fun v v1 v2=>?_
  rw [Int.add_comm v,show (0+h.Shade.Low:Int)=h.Shade.Low by omega]
  exact per_same b r _ (fun x hx=>hr x (by simp [hx])) (fun x hx=>by
   rcases List.mem_append.1 hx with hx | hx
   ·exact hh x hx
   ·rw [List.mem_singleton] at hx
    rw [hx]
    exact oneOk hk (by omega) (by omega))
theorem p34 (b:HairBook):g34 b=some (bif okH b then (perh b b.Hanks [],0) else (false,60)):=by
 unfold g34
 rw [p18,bsm]
 cases hok:okH b with
 | false=>rfl
 | true=>
  have ok:=okH_of hok
  have h4:=okH_l4 hok
  simp only [cond_true,ne_eq,not_true_eq_false,decide_false,cond_false]
  rw [p92 ok h4 b.Hanks [] [] 1000 ⟨rfl,fun k n hn=>by simp at hn⟩ (fun j x hx=>by rw [List.length_nil,Nat.zero_add];exact hx) (by simp) (by omega) (by simp),bsm,per_same b b.Hanks [] ok.hanks (by simp)]
theorem plain5 (b:HairBook) (s:Int):g5 b s=some true:=by
 have hb:∃ r,g31 b s=some r:=by
  cases hok:okH b with
  | false=>exact ⟨_,p31_no hok s⟩
  | true=>
   cases hs:rg s 0 20 with
   | false=>exact ⟨_,p31_bad hok hs⟩
   | true=>
    rw [rg_iff] at hs
    obtain ⟨r,_,e⟩:=p31 hok hs.1 hs.2
    exact ⟨r,e⟩
 obtain ⟨r,er⟩:=hb
 unfold g5
 rw [← buy_same,er,p33,p34]
 simp [bsm,matched_ok]
end Go.Proofs.YtonjadhpjkbhnaaDoor
