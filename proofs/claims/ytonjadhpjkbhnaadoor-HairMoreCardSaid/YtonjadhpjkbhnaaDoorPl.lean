/- Plain laws. Conditions: none. -/
import Derived.Test.YtonjadhpjkbhnaaDoorAr
set_option linter.unusedVariables false
set_option linter.unusedSimpArgs false
namespace Go.Proofs.YtonjadhpjkbhnaaDoor
open Go.Abs Go.Proofs.Th
theorem matched_ok:g25=some true:=by kernel_rfl
end Go.Proofs.YtonjadhpjkbhnaaDoor
namespace Go.Proofs.YtonjadhpjkbhnaaDoor
open Go.Abs Go.Proofs.Th
theorem cs {α:Type} (c:Bool) (a b:α):(bif c then some a else some b)=some (bif c then a else b):=by cases c<;>rfl
theorem bsm {α β:Type} (a:α) (f:α→Option β):(some a).bind f=f a:=rfl
theorem eachS_all {α:Type} {f:Int→α→Bool→Option Bool} {p:α→Bool} (h:∀ i x s,f i x s=some (s&&p x)):∀ (xs:List α) (i:Int) (s:Bool),eachS f xs i s=some (s&&xs.all p)
 | [],i,s=>by simp [eachS]
 | x::xs,i,s=>by rw [eachS,h,bsm,eachS_all h xs];simp [Bool.and_assoc]
def rg (n a b:Int):Bool:=decide (a≤n)&&decide (n≤b)
theorem while_all {α:Type} {f:Bool×Int→Option (Ctl (Bool×Int) Bool)} {p:α→Bool} {xs:List α} (hl:xs.length<900)
  (h0:∀ i,f (false,i)=some (.brk false)) (h1:f (true,(xs.length:Int))=some (.brk true))
  (h:∀ (i:Nat) x,xs[i]?=some x→f (true,(i:Int))=some (.next (p x,((i+1:Nat):Int)))) :
  ∀ (n i:Nat),i+n=xs.length→∀ k,n+2≤k→whileC f k (true,(i:Int))=some ((xs.drop i).all p)
 | 0,i,hi,k,hk=>by
  obtain ⟨k,rfl⟩:∃ k',k=k'+1:=⟨k - 1,by omega⟩
  have:i=xs.length:=by omega
  subst this
  rw [whileC,h1];simp
 | n+1,i,hi,k,hk=>by
  obtain ⟨k,rfl⟩:∃ k',k=k'+1:=⟨k - 1,by omega⟩
  have hlt:i<xs.length:=by omega
  rw [whileC,h i _ (List.getElem?_eq_getElem hlt),bsm,List.drop_eq_getElem_cons hlt,List.all_cons]
  cases hp:p xs[i] with
  | false=>
   obtain ⟨k,rfl⟩:∃ k',k=k'+1:=⟨k - 1,by omega⟩
   simp only;rw [whileC,h0];rfl
  | true=>simp only;rw [while_all hl h0 h1 h n (i+1) (by omega) k (by omega)];simp
theorem wr_nat {i:Nat} (h:i<1000):wr ((i:Int)+1)=((i+1:Nat):Int):=by rw [wr_in (by omega) (by omega)];simp
theorem ixL_nat {α:Type} (xs:List α) (i:Nat):ixL xs (i:Int)=xs[i]?:=by
 unfold ixL
 have:decide (0≤(i:Int))=true:=by simp
 rw [this];simp
def Bd (a x:Int):Prop:=-a≤x∧x≤a
theorem Bd.mul {a b x y:Int} (hx:Bd a x) (hy:Bd b y):Bd (a*b) (x*y):=by
 have h1:x.natAbs≤a.natAbs:=by obtain ⟨h,k⟩:=hx;omega
 have h2:y.natAbs≤b.natAbs:=by obtain ⟨h,k⟩:=hy;omega
 have h3:=Nat.mul_le_mul h1 h2
 rw [← Int.natAbs_mul,← Int.natAbs_mul] at h3
 have ha:0≤a:=by obtain ⟨h,k⟩:=hx;omega
 have hb:0≤b:=by obtain ⟨h,k⟩:=hy;omega
 have:=Int.mul_nonneg ha hb
 constructor<;>omega
theorem Bd.add {a b x y:Int} (hx:Bd a x) (hy:Bd b y):Bd (a+b) (x+y):=by obtain ⟨h,k⟩:=hx;obtain ⟨h',k'⟩:=hy;constructor<;>omega
theorem Bd.sub {a b x y:Int} (hx:Bd a x) (hy:Bd b y):Bd (a+b) (x - y):=by obtain ⟨h,k⟩:=hx;obtain ⟨h',k'⟩:=hy;constructor<;>omega
theorem Bd.mono {a b x:Int} (hx:Bd a x) (h:a≤b):Bd b x:=by obtain ⟨h,k⟩:=hx;constructor<;>omega
theorem rg_iff {n a c:Int}:rg n a c=true↔a≤n∧n≤c:=by simp [rg]
theorem must_t {x:Bool} (h:x=true):must x=some ():=by subst h;rfl
def firstI (p:Int→Bool):Nat→Int→Option Int
 | 0,_=>none
 | n+1,i=>bif p i then some i else firstI p n (i+1)
theorem firstI_none {p:Int→Bool}:∀ {n:Nat} {i:Int},firstI p n i=none↔∀ j,i≤j→j<i+n→p j=false
 | 0,i=>⟨fun _ j h1 h2=>by omega,fun _=>rfl⟩
 | n+1,i=>by
  rw [firstI]
  cases h0:p i with
  | true=>exact ⟨fun h=>by (cases h),fun h=>by have:=h i (by omega) (by omega);rw [h0] at this;cases this⟩
  | false=>
   rw [cond_false,firstI_none]
   constructor
   ·intro h j h1 h2
    by_cases e:j=i
    ·rw [e];exact h0
    ·exact h j (by omega) (by omega)
   ·intro h j h1 h2;exact h j (by omega) (by omega)
theorem firstI_some {p:Int→Bool}:∀ {n:Nat} {i j:Int},firstI p n i=some j→i≤j∧j<i+n∧p j=true∧∀ k,i≤k→k<j→p k=false
 | 0,i,j,h=>by cases h
 | n+1,i,j,h=>by
  rw [firstI] at h
  cases h0:p i with
  | true=>rw [h0] at h;cases h;exact ⟨by omega,by omega,h0,fun k h1 h2=>by omega⟩
  | false=>
   rw [h0,cond_false] at h
   obtain ⟨h1,h2,h3,h4⟩:=firstI_some h
   refine ⟨by omega,by omega,h3,fun k hk hk'=>?_⟩
   by_cases e:k=i
   ·rw [e];exact h0
   ·exact h4 k (by omega) hk'
theorem forC_first {S R:Type} {f:Int→S→Option (Ctl S R)} (I:S→Prop) (p:Int→Bool) (r:Int→R):∀ (n:Nat) (i:Int) (s:S),I s →
  (∀ j s,i≤j→j<i+n→I s→∃ s',I s'∧f j s=some (bif p j then .brk (r j) else .next s')) →
  ∃ s',I s'∧forC f n i s=some (match firstI p n i with | some j=>.brk (r j) | none=>.next s')
 | 0,i,s,hs,h=>⟨s,hs,rfl⟩
 | n+1,i,s,hs,h=>by
  obtain ⟨s1,h1,e1⟩:=h i s (by omega) (by omega) hs
  rw [forC,e1,bsm,firstI]
  cases p i with
  | true=>exact ⟨s1,h1,rfl⟩
  | false=>exact forC_first I p r n (i+1) s1 h1 (fun j s k1 k2=>h j s (by omega) (by omega))
theorem forC_firstU {R:Type} {f:Int→Unit→Option (Ctl Unit R)} (p:Int→Bool) (r:Int→R) (n:Nat) (i:Int) (h:∀ j,i≤j→j<i+n→f j ()=some (bif p j then .brk (r j) else .next ())) :
  forC f n i ()=some (match firstI p n i with | some j=>.brk (r j) | none=>.next ()):=by
 obtain ⟨s,_,e⟩:=forC_first (fun _=>True) p r n i () trivial (fun j s h1 h2 _=>⟨(),trivial,h j h1 h2⟩)
 exact e
theorem roomB_ok {n b:Nat} (h:n*b≤140737488355328):roomB n b=true:=Nat.ble_eq_true_of_le h
theorem appL_ok {α:Type} {sz:Nat} {l m:List α} (h:(l++m).length*sz≤140737488355328):appL sz l m=some (l++m):=by
 unfold appL
 rw [roomB_ok h];rfl
theorem slcL_all {α:Type} (l:List α):slcL l 0 (l.length:Int)=some l:=by
 unfold slcL
 have:(decide ((0:Int)≤0)&&(decide ((0:Int)≤(l.length:Int))&&decide ((l.length:Int)≤(l.length:Int))))=true:=by simp
 rw [this];simp
theorem forS_inv {S:Type} {f:Int→S→Option S} (I:Int→S→Prop):∀ (n:Nat) (i:Int) (s:S),I i s→(∀ j s,i≤j→j<i+n→I j s→∃ s',f j s=some s'∧I (j+1) s')→∃ s',forS f n i s=some s'∧I (i+n) s'
 | 0,i,s,hs,h=>⟨s,rfl,by simpa using hs⟩
 | n+1,i,s,hs,h=>by
  obtain ⟨s1,e1,h1⟩:=h i s (by omega) (by omega) hs
  obtain ⟨s2,e2,h2⟩:=forS_inv I n (i+1) s1 h1 (fun j s k1 k2=>h j s (by omega) (by omega))
  refine ⟨s2,by rw [forS,e1,bsm,e2],?_⟩
  rw [show i+((n+1:Nat):Int)=i+1+(n:Int) by omega]
  exact h2
theorem ixN_nat {n i:Nat} (h:i<n):ixN n (i:Int)=some i:=by
 unfold ixN
 have:(decide (0≤(i:Int))&&Nat.blt (i:Int).toNat n)=true:=by simp [h,Nat.blt_eq]
 rw [this];simp
theorem mfd_append {K W:Type} (q:K→K→Bool) (k k':K) (w:W):∀ (m:List (K×W)) (i:Nat),(mfd q k (m++[(k',w)]) i).map (·.2)=match (mfd q k m i).map (·.2) with
  | some v=>some v
  | none=>bif q k k' then some w else none
 | [],i=>by
  simp only [List.nil_append,mfd]
  cases q k k'<;>rfl
 | p::m,i=>by
  simp only [List.cons_append,mfd]
  cases q k p.1 with
  | true=>rfl
  | false=>simp only [cond_false];exact mfd_append q k k' w m (i+1)
theorem mget_append {K W:Type} (q:K→K→Bool) (m:List (K×W)) (k k':K) (w:W):mget q (m++[(k',w)]) k=match mget q m k with
  | some v=>some v
  | none=>bif q k k' then some w else none:=mfd_append q k k' w m 0
end Go.Proofs.YtonjadhpjkbhnaaDoor
namespace Go.Proofs.YtonjadhpjkbhnaaDoor
open Go.Abs Go.Proofs.Th
def okSpan (s:Span) (a c w:Int):Bool:=decide (a≤s.Low)&&decide (s.Low≤s.High)&&decide (s.High≤c)&&decide (wr (s.High - s.Low)≤w)
def okHank (x:HairHank):Bool:=okSpan x.Weight 1 60 4&&okSpan x.Shade 0 20 2
def okHorse (x:HairHorse):Bool:=rg x.Mane 1 30&&rg x.Tail 1 30&&rg x.Shade 0 25
def okH (b:HairBook):Bool:=decide ((b.Hanks.length:Int)≤4)&&decide ((b.Horses.length:Int)≤3)&&rg b.Dark 0 4&&rg b.Near 0 3&&rg b.Match 0 3&&b.Hanks.all okHank&&b.Horses.all okHorse
theorem p57 (n a c:Int):g57 n a c=some (rg n a c):=rfl
theorem p63 (s:Span) (a c w:Int):g63 s a c w=some (okSpan s a c w):=rfl
theorem p17_15 (i:Int) (x:HairHank) (s:Bool):g17_15 i x s=some (s&&okHank x):=by
 simp only [g17_15,p63,bsm,cs,okHank,Bool.cond_false_right,Bool.and_assoc]
theorem p17_31 (i:Int) (x:HairHorse) (s:Bool):g17_31 i x s=some (s&&okHorse x):=by
 simp only [g17_31,p57,bsm,cs,okHorse,Bool.cond_false_right,Bool.and_assoc]
theorem p17 (b:HairBook):g17 b=some (bif okH b then 0 else 60):=by
 unfold g17
 simp only [p57,bsm,cs,Bool.cond_false_right,eachS_all p17_15,eachS_all p17_31]
 have:∀ x:Bool,(bif !x then (60:Int) else 0)=bif x then 0 else 60:=by intro x;cases x<;>rfl
 rw [this]
 simp only [okH,Bool.and_assoc]
structure HankOk (x:HairHank):Prop where
 w:1≤x.Weight.Low∧x.Weight.Low≤x.Weight.High∧x.Weight.High≤60
 s:0≤x.Shade.Low∧x.Shade.Low≤x.Shade.High∧x.Shade.High≤20
structure OkH (b:HairBook):Prop where
 l4:b.Hanks.length≤5
 l3:b.Horses.length≤3
 dark:0≤b.Dark∧b.Dark≤4
 near:0≤b.Near∧b.Near≤3
 mat:0≤b.Match∧b.Match≤3
 hanks:∀ x,x∈b.Hanks→HankOk x
 horses:∀ x,x∈b.Horses→(1≤x.Mane∧x.Mane≤30)∧(1≤x.Tail∧x.Tail≤30)∧0≤x.Shade∧x.Shade≤25
theorem okH_of {b:HairBook} (h:okH b=true):OkH b:=by
 simp only [okH,Bool.and_eq_true,rg_iff,decide_eq_true_eq,List.all_eq_true] at h
 obtain ⟨⟨⟨⟨⟨⟨h1,h2⟩,h3⟩,h4⟩,h5⟩,h6⟩,h7⟩:=h
 refine ⟨by omega,by omega,h3,h4,h5,fun x hx=>?_,fun x hx=>?_⟩
 ·have:=h6 x hx
  simp only [okHank,okSpan,Bool.and_eq_true,decide_eq_true_eq] at this
  exact ⟨by omega,by omega⟩
 ·have:=h7 x hx
  simp only [okHorse,Bool.and_eq_true,rg_iff] at this
  omega
theorem okH_l4 {b:HairBook} (h:okH b=true):b.Hanks.length≤4:=by
 simp only [okH,Bool.and_eq_true,decide_eq_true_eq] at h
 omega
theorem q84_iff (x y:Hair_dye):q84 x y=true↔x=y:=by
 cases x;cases y
 simp [q84]
def shOf (b:HairBook) (h n:Int):Span:=match b.Hanks[h.toNat]? with
 | some x=>⟨x.Shade.Low+n,x.Shade.High+n⟩
 | none=>⟨0,0⟩
def ShK (b:HairBook) (k j:Int) (m:List (Hair_dye×Span)):Prop:=∀ h n,mget q84 m ⟨h,n⟩=bif (decide (0≤h)&&decide (h<k)&&decide (0≤n)&&decide (n≤b.Dark))||(decide (h=k)&&decide (0≤n)&&decide (n<j)) then some (shOf b h n) else none
theorem eachS_inv {α S:Type} {f:Int→α→S→Option S} (I:Nat→S→Prop):∀ (xs:List α) (i:Nat) (s:S),I i s→(∀ j x s,i≤j→xs[j - i]?=some x→I j s→∃ s',f (j:Int) x s=some s'∧I (j+1) s')→∃ s',eachS f xs (i:Int) s=some s'∧I (i+xs.length) s'
 | [],i,s,hs,h=>⟨s,rfl,by simpa using hs⟩
 | x::xs,i,s,hs,h=>by
  obtain ⟨s1,e1,h1⟩:=h i x s (Nat.le_refl _) (by simp) hs
  obtain ⟨s2,e2,h2⟩:=eachS_inv I xs (i+1) s1 h1 (fun j y s hj hy hI=>h j y s (by omega) (by
   have:j - i=(j - (i+1))+1:=by omega
   rw [this,List.getElem?_cons_succ];exact hy) hI)
  refine ⟨s2,?_,?_⟩
  ·rw [eachS,e1,bsm,show (i:Int)+1=((i+1:Nat):Int) by omega,e2]
  ·rw [List.length_cons,show i+(xs.length+1)=i+1+xs.length by omega];exact h2
theorem p80_8 {b:HairBook} (ok:OkH b) {k:Nat} {x:HairHank} (hx:b.Hanks[k]?=some x) {j:Int} (h0:0≤j) (h1:j≤b.Dark) {m:List (Hair_dye×Span)} (hm:ShK b k j m):∃ m',g80_8 (k:Int) x j m=some m'∧ShK b k (j+1) m':=by
 have hd:=ok.dark
 have hs:=(ok.hanks x (List.mem_of_getElem? hx)).s
 have hnone:mget q84 m ⟨(k:Int),j⟩=none:=by
  rw [hm]
  have:((decide (0≤(k:Int))&&decide ((k:Int)<(k:Int))&&decide (0≤j)&&decide (j≤b.Dark))||(decide ((k:Int)=(k:Int))&&decide (0≤j)&&decide (j<j)))=false:=by simp
  rw [this];rfl
 have hsh:shOf b (k:Int) j=⟨x.Shade.Low+j,x.Shade.High+j⟩:=by
  unfold shOf
  rw [Int.toNat_natCast,hx]
 refine ⟨m++[(⟨(k:Int),j⟩,⟨x.Shade.Low+j,x.Shade.High+j⟩)],?_,fun h n=>?_⟩
 ·unfold g80_8 mput
  rw [hnone,wr_in (by omega) (by omega),wr_in (by omega) (by omega)]
  rfl
 ·rw [mget_append]
  by_cases he:h=(k:Int)∧n=j
  ·obtain ⟨rfl,rfl⟩:=he
   rw [hnone]
   have hq:q84 ⟨(k:Int),n⟩ ⟨(k:Int),n⟩=true:=(q84_iff _ _).2 rfl
   have ht:((decide (0≤(k:Int))&&decide ((k:Int)<(k:Int))&&decide (0≤n)&&decide (n≤b.Dark))||(decide ((k:Int)=(k:Int))&&decide (0≤n)&&decide (n<n+1)))=true:=by
    simp;omega
   rw [ht,hsh]
   simp only [hq,cond_true]
  ·have hq:q84 ⟨h,n⟩ ⟨(k:Int),j⟩=false:=by
    cases hc:q84 ⟨h,n⟩ ⟨(k:Int),j⟩ with
    | false=>rfl
    | true=>
     have:=(q84_iff _ _).1 hc
     injection this with e1 e2
     exact absurd ⟨e1,e2⟩ he
   rw [hm,hq]
   have:(decide (h=(k:Int))&&decide (0≤n)&&decide (n<j))=(decide (h=(k:Int))&&decide (0≤n)&&decide (n<j+1)):=by
    rw [Bool.eq_iff_iff]
    simp only [Bool.and_eq_true,decide_eq_true_eq]
    constructor
    ·rintro ⟨⟨a1,a2⟩,a3⟩;exact ⟨⟨a1,a2⟩,by omega⟩
    ·rintro ⟨⟨a1,a2⟩,a3⟩
     refine ⟨⟨a1,a2⟩,?_⟩
     by_cases e:n=j
     ·exact absurd ⟨a1,e⟩ he
     ·omega
   rw [this]
   cases (decide (0≤h)&&decide (h<(k:Int))&&decide (0≤n)&&decide (n≤b.Dark))||(decide (h=(k:Int))&&decide (0≤n)&&decide (n<j+1))<;>rfl
def ShOk (b:HairBook) (m:List (Hair_dye×Span)):Prop:=∀ (h n:Int),0≤h→h<b.Hanks.length→0≤n→n≤b.Dark→mget q84 m ⟨h,n⟩=some (shOf b h n)
theorem p80 {b:HairBook} (ok:OkH b):∃ m,g80 b=some (b,m)∧ShOk b m:=by
 have hd:=ok.dark
 have e:wr (b.Dark+1)=b.Dark+1:=wr_in (by omega) (by omega)
 obtain ⟨m,em,hm⟩:=eachS_inv (f:=g80_3 b) (fun k m=>ShK b (k:Int) 0 m) b.Hanks 0 [] (fun h n=>by
  have:((decide (0≤h)&&decide (h<((0:Nat):Int))&&decide (0≤n)&&decide (n≤b.Dark))||(decide (h=((0:Nat):Int))&&decide (0≤n)&&decide (n<0)))=false:=by
   rw [Bool.eq_false_iff]
   intro hc
   simp only [Bool.or_eq_true,Bool.and_eq_true,decide_eq_true_eq] at hc
   omega
  rw [this];rfl) (fun k x m hk hx hm=>by
  rw [Nat.sub_zero] at hx
  obtain ⟨m',e',h'⟩:=forS_inv (f:=g80_8 (k:Int) x) (fun j m=>ShK b (k:Int) j m) (b.Dark+1 - 0).toNat 0 m hm (fun j s j1 j2 hs=>p80_8 ok hx j1 (by omega) hs)
  refine ⟨m',by unfold g80_3;rw [e,e',bsm],fun h n=>?_⟩
  rw [h']
  congr 1
  rw [Bool.eq_iff_iff]
  simp only [Bool.or_eq_true,Bool.and_eq_true,decide_eq_true_eq]
  omega)
 refine ⟨m,?_,fun h n h1 h2 h3 h4=>?_⟩
 ·unfold g80
  rw [show ((0:Nat):Int)=0 from rfl] at em
  rw [em,bsm]
 ·rw [hm]
  have:((decide (0≤h)&&decide (h<((0+b.Hanks.length:Nat):Int))&&decide (0≤n)&&decide (n≤b.Dark))||(decide (h=((0+b.Hanks.length:Nat):Int))&&decide (0≤n)&&decide (n<0)))=true:=by
   simp only [Bool.or_eq_true,Bool.and_eq_true,decide_eq_true_eq]
   omega
  rw [this];rfl
def nearB (b:HairBook) (want:Int) (s:Span):Bool:=decide (s.High - want≤b.Near)&&decide (want - s.Low≤b.Near)
def mB (b:HairBook) (want mane tail m t:Int):Bool:=nearB b want (shOf b mane m)&&nearB b want (shOf b tail t) &&
 bif decide (mane=tail) then decide (-b.Match≤m - t)&&decide (m - t≤b.Match) else decide ((shOf b mane m).High - (shOf b tail t).Low≤b.Match)&&decide ((shOf b tail t).High - (shOf b mane m).Low≤b.Match)
theorem sh_bd {b:HairBook} (ok:OkH b) {h n:Int} (h1:0≤h) (h2:h<b.Hanks.length) (h3:0≤n) (h4:n≤b.Dark):0≤(shOf b h n).Low∧(shOf b h n).Low≤(shOf b h n).High∧(shOf b h n).High≤24:=by
 have hd:=ok.dark
 have hlt:h.toNat<b.Hanks.length:=by omega
 have hs:=(ok.hanks _ (List.getElem_mem hlt)).s
 unfold shOf
 rw [List.getElem?_eq_getElem hlt]
 simp only
 omega
theorem p100 {b:HairBook} (ok:OkH b) {mf:List (Hair_dye×Span)} (hmf:ShOk b mf) {horse:Int} {p:HairHorse} (hp:ixL b.Horses horse=some p) (hw:0≤p.Shade∧p.Shade≤25) {mane tail m t:Int} (a1:0≤mane) (a2:mane<b.Hanks.length) (b1:0≤tail) (b2:tail<b.Hanks.length)
  (m1:0≤m) (m2:m≤b.Dark) (t1:0≤t) (t2:t≤b.Dark):g100 b mf horse ⟨mane,m⟩ ⟨tail,t⟩=some (mB b p.Shade mane tail m t):=by
 have hd:=ok.dark
 have hn:=ok.near
 have hma:=ok.mat
 have hs:=sh_bd ok a1 a2 m1 m2
 have ht:=sh_bd ok b1 b2 t1 t2
 unfold g100
 rw [hp,bsm,hmf mane m a1 a2 m1 m2,hmf tail t b1 b2 t1 t2]
 simp only [Option.getD_some]
 generalize hS:shOf b mane m=s at hs
 generalize hT:shOf b tail t=u at ht
 have g3:∀ a x y z,g113 a [x,y,z]=some (max (max (max a x) y) z):=fun _ _ _ _=>rfl
 have g1:∀ a x,g113 a [x]=some (max a x):=fun _ _=>rfl
 rw [wr_in (show -9223372036854775808≤s.High - p.Shade by omega) (by omega),wr_in (show -9223372036854775808≤p.Shade - s.Low by omega) (by omega),wr_in (show -9223372036854775808≤u.High - p.Shade by omega) (by omega),wr_in (show -9223372036854775808≤p.Shade - u.Low by omega) (by omega),g3,bsm,
  wr_in (show -9223372036854775808≤m - t by omega) (by omega),wr_in (show -9223372036854775808≤-b.Match by omega) (by omega),wr_in (show -9223372036854775808≤s.High - u.Low by omega) (by omega),wr_in (show -9223372036854775808≤u.High - s.Low by omega) (by omega),g1,p57]
 simp only [bsm,cs]
 unfold mB nearB
 rw [hS,hT]
 by_cases hnear:b.Near<max (max (max (s.High - p.Shade) (p.Shade - s.Low)) (u.High - p.Shade)) (p.Shade - u.Low)
 ·rw [decide_eq_true hnear,cond_true]
  have:(decide (s.High - p.Shade≤b.Near)&&decide (p.Shade - s.Low≤b.Near)&&(decide (u.High - p.Shade≤b.Near)&&decide (p.Shade - u.Low≤b.Near)))=false:=by
   rw [Bool.eq_false_iff]
   intro hc
   simp only [Bool.and_eq_true,decide_eq_true_eq] at hc
   omega
  rw [this];rfl
 ·rw [decide_eq_false hnear,cond_false]
  have:(decide (s.High - p.Shade≤b.Near)&&decide (p.Shade - s.Low≤b.Near)&&(decide (u.High - p.Shade≤b.Near)&&decide (p.Shade - u.Low≤b.Near)))=true:=by
   simp only [Bool.and_eq_true,decide_eq_true_eq]
   omega
  rw [this,Bool.true_and]
  by_cases he:mane=tail
  ·rw [decide_eq_true he]
   simp only [cond_true]
   by_cases hmt:m=t
   ·subst he;subst hmt
    have e1:(false != ((mane==mane)&&((m==m)&&true)))=true:=by simp
    have e2:(decide (-b.Match≤m - m)&&decide (m - m≤b.Match))=true:=by
     simp only [Bool.and_eq_true,decide_eq_true_eq];omega
    rw [e1,e2];rfl
   ·have e1:(false != ((mane==tail)&&((m==t)&&true)))=false:=by
     have:(m==t)=false:=by simpa using hmt
     rw [this];simp
    rw [e1];rfl
  ·rw [decide_eq_false he]
   simp only [cond_false]
   congr 1
   rw [Bool.eq_iff_iff]
   simp only [Bool.and_eq_true,decide_eq_true_eq]
   omega
def dyesF (b:HairBook) (want mane tail:Int):Option (Int×Int):=(firstI (fun m=>(firstI (fun t=>mB b want mane tail m t) (b.Dark+1).toNat 0).isSome) (b.Dark+1).toNat 0).map fun m=>(m,(firstI (fun t=>mB b want mane tail m t) (b.Dark+1).toNat 0).getD 0)
theorem p59 {b:HairBook} (ok:OkH b) {mf:List (Hair_dye×Span)} (hmf:ShOk b mf) {horse:Int} {p:HairHorse} (hp:ixL b.Horses horse=some p) (hw:0≤p.Shade∧p.Shade≤25) {mane tail:Int} (a1:0≤mane) (a2:mane<b.Hanks.length) (b1:0≤tail) (b2:tail<b.Hanks.length) :
  g59 b mf horse mane tail=some (match dyesF b p.Shade mane tail with | some x=>(⟨mane,x.1⟩,⟨tail,x.2⟩,true) | none=>(⟨0,0⟩,⟨0,0⟩,false)):=by
 have hd:=ok.dark
 have e:wr (b.Dark+1)=b.Dark+1:=wr_in (by omega) (by omega)
 unfold g59
 rw [e,Int.sub_zero]
 have:=forC_firstU (f:=g59_2 b mf horse mane tail) (fun m=>(firstI (fun t=>mB b p.Shade mane tail m t) (b.Dark+1).toNat 0).isSome) (fun m=>((⟨mane,m⟩:Hair_dye),(⟨tail,(firstI (fun t=>mB b p.Shade mane tail m t) (b.Dark+1).toNat 0).getD 0⟩:Hair_dye),true)) (b.Dark+1).toNat 0 (fun m m1 m2=>by
  have:=forC_firstU (f:=g59_6 b mf horse mane tail m) (fun t=>mB b p.Shade mane tail m t) (fun t=>.brk ((⟨mane,m⟩:Hair_dye),(⟨tail,t⟩:Hair_dye),true)) (b.Dark+1).toNat 0 (fun t t1 t2=>by
   unfold g59_6
   rw [p100 ok hmf hp hw a1 a2 b1 b2 m1 (by omega) t1 (by omega),bsm,cs])
  unfold g59_2
  rw [e,Int.sub_zero,this]
  cases firstI (fun t=>mB b p.Shade mane tail m t) (b.Dark+1).toNat 0<;>rfl)
 rw [this]
 unfold dyesF
 cases firstI (fun m=>(firstI (fun t=>mB b p.Shade mane tail m t) (b.Dark+1).toNat 0).isSome) (b.Dark+1).toNat 0<;>rfl
end Go.Proofs.YtonjadhpjkbhnaaDoor
namespace Go.Proofs.YtonjadhpjkbhnaaDoor
open Go.Abs Go.Proofs.Th
def sdHank (x:HairHank):Bool:=decide (1≤x.Weight.Low)&&decide (x.Weight.Low≤x.Weight.High)&&decide (x.Weight.High≤60)&&(decide (0≤x.Shade.Low)&&decide (x.Shade.Low≤x.Shade.High)&&decide (x.Shade.High≤20))
def sdHorse (x:HairHorse):Bool:=rg x.Mane 1 30&&rg x.Tail 1 30
theorem p35_loop1 (b:HairBook) (hl:b.Hanks.length<900) (s:Bool):whileC (g35_18 b) 1000 (s,0)=some (s&&b.Hanks.all sdHank):=by
 have h0:∀ i,g35_18 b (false,i)=some (.brk false):=fun i=>by simp [g35_18,bsm]
 cases s with
 | false=>rw [whileC,h0];rfl
 | true=>
  have:=while_all (f:=g35_18 b) (p:=sdHank) (xs:=b.Hanks) hl h0 (by simp [g35_18,bsm]) (fun i x hx=>by
   have hi:i<b.Hanks.length:=(List.getElem?_eq_some_iff.1 hx).1
   simp only [g35_18,cond_true,bsm,ixL_nat,hx,g64,sdHank,cs,Bool.cond_false_right]
   have:decide ((i:Int)<(b.Hanks.length:Int))=true:=by simp [hi]
   rw [this,wr_nat (by omega)]
   simp only [cond_true]) b.Hanks.length 0 (by omega) 1000 (by omega)
  simpa using this
theorem p35_loop2 (b:HairBook) (hl:b.Horses.length<900) (s:Bool):whileC (g35_33 b) 1000 (s,0)=some (s&&b.Horses.all sdHorse):=by
 have h0:∀ i,g35_33 b (false,i)=some (.brk false):=fun i=>by simp [g35_33,bsm]
 cases s with
 | false=>rw [whileC,h0];rfl
 | true=>
  have:=while_all (f:=g35_33 b) (p:=sdHorse) (xs:=b.Horses) hl h0 (by simp [g35_33,bsm]) (fun i x hx=>by
   have hi:i<b.Horses.length:=(List.getElem?_eq_some_iff.1 hx).1
   simp only [g35_33,cond_true,bsm,ixL_nat,hx,g50,sdHorse,rg,cs,Bool.cond_false_right]
   have:decide ((i:Int)<(b.Horses.length:Int))=true:=by simp [hi]
   rw [this,wr_nat (by omega)]
   simp only [cond_true]) b.Horses.length 0 (by omega) 1000 (by omega)
  simpa using this
theorem p50 (n a c:Int):g50 n a c=some (rg n a c):=rfl
theorem p35 (b:HairBook):g35 b=some (okH b):=by
 unfold g35
 rw [p17,bsm]
 cases hok:okH b with
 | false=>
  simp only [cond_false,show decide ((60:Int)=0)=false from rfl,bsm]
  have e1:whileC (g35_18 b) 1000 (false,0)=some false:=by rw [whileC];simp [g35_18,bsm]
  have e2:whileC (g35_33 b) 1000 (false,0)=some false:=by rw [whileC];simp [g35_33,bsm]
  simp only [e1,e2,bsm]
 | true=>
  have ok:=okH_of hok
  have h4:=okH_l4 hok
  have h3:=ok.l3
  have q1:b.Hanks.all sdHank=true:=by
   rw [List.all_eq_true]
   intro x hx
   obtain ⟨a1,a2⟩:=ok.hanks x hx
   simp only [sdHank,Bool.and_eq_true,decide_eq_true_eq]
   omega
  have q2:b.Horses.all sdHorse=true:=by
   rw [List.all_eq_true]
   intro x hx
   obtain ⟨a1,a2,a3⟩:=ok.horses x hx
   simp only [sdHorse,Bool.and_eq_true,rg_iff]
   omega
  simp only [cond_true,decide_true,bsm,p50]
  rw [decide_eq_true (show (b.Hanks.length:Int)≤4 by omega),decide_eq_true (show (b.Horses.length:Int)≤3 by omega),rg_iff.2 ok.dark,rg_iff.2 ok.near,rg_iff.2 ok.mat]
  simp only [cond_true,bsm]
  rw [p35_loop1 b (by omega)]
  simp only [bsm]
  rw [p35_loop2 b (by omega),q1,q2]
  rfl
theorem p39 (n:Int) {many:Int} (h1:1≤many) (h2:many≤9223372036854775807):∃ r,g39 n many=some r∧0≤r∧r<many:=by
 have a1:=Int.tmod_lt_of_pos n (show 0<many by omega)
 have a2:=Int.lt_tmod_of_pos n (show 0<many by omega)
 unfold g39
 rw [decide_eq_false (by omega),cond_false,must_t (by simp;omega),bsm]
 by_cases h:n.tmod many<0
 ·rw [decide_eq_true h,cond_true,wr_in (by omega) (by omega)]
  exact ⟨_,rfl,by omega,by omega⟩
 ·rw [decide_eq_false h,cond_false]
  exact ⟨_,rfl,by omega,by omega⟩
end Go.Proofs.YtonjadhpjkbhnaaDoor
namespace Go.Proofs.YtonjadhpjkbhnaaDoor
open Go.Abs Go.Proofs.Th
def partN (b:HairBook) (v:Nat):Int:=match b.Horses[v / 2]? with
 | some h=>bif decide (v % 2=0) then h.Mane else h.Tail
 | none=>0
def cutS (b:HairBook):List Int→Nat→Int→Int
 | [],_,_=>0
 | p::ps,v,k=>(bif decide (p=k) then partN b v else 0)+cutS b ps (v+1) k
theorem partN_bd {b:HairBook} (ok:OkH b) (v:Nat):0≤partN b v∧partN b v≤30:=by
 unfold partN
 cases hh:b.Horses[v / 2]? with
 | none=>simp
 | some h=>
  obtain ⟨h1,h2,_⟩:=ok.horses h (List.mem_of_getElem? hh)
  simp only
  cases decide (v % 2=0)<;>simp only [cond_true,cond_false]<;>omega
theorem cutS_bd {b:HairBook} (ok:OkH b) (k:Int):∀ (ps:List Int) (v:Nat),0≤cutS b ps v k∧cutS b ps v k≤30*ps.length
 | [],v=>by simp [cutS]
 | p::ps,v=>by
  have h1:=partN_bd ok v
  have h2:=cutS_bd ok k ps (v+1)
  rw [cutS,List.length_cons]
  cases decide (p=k)<;>simp only [cond_true,cond_false]<;>omega
def planB (b:HairBook) (plan:List Int):Bool:=decide ((plan.length:Int)=2*(b.Horses.length:Int))&&plan.all fun n=>rg n 0 ((b.Hanks.length:Int) - 1)
structure PlanOk (b:HairBook) (plan:List Int):Prop where
 len:plan.length=2*b.Horses.length
 rng:∀ n,n∈plan→0≤n∧n<b.Hanks.length
theorem plan_of {b:HairBook} {plan:List Int} (h:planB b plan=true):PlanOk b plan:=by
 simp only [planB,Bool.and_eq_true,decide_eq_true_eq,List.all_eq_true,rg_iff] at h
 exact ⟨by omega,fun n hn=>by have:=h.2 n hn;omega⟩
theorem tdiv_nat (v:Nat):(v:Int).tdiv 2=((v / 2:Nat):Int):=rfl
theorem tmod_nat (v:Nat):(v:Int).tmod 2=((v % 2:Nat):Int):=rfl
theorem aset_get (w:Nat→Int) (j k:Nat) (x:Int):aset w j x k=if k=j then x else w k:=by
 unfold aset
 by_cases h:k=j
 ·subst h;simp
 ·rw [if_neg h]
  cases hb:Nat.beq k j with
  | true=>exact absurd (Nat.eq_of_beq_eq_true hb) h
  | false=>rfl
def fitK (b:HairBook) (plan:List Int):Bool:=b.Hanks.zipIdx.all fun y=>!decide (y.1.Weight.Low<cutS b plan 0 (y.2:Int))
def dyeK (b:HairBook) (plan:List Int):Bool:=b.Horses.zipIdx.all fun y=>(dyesF b y.1.Shade ((plan[2*y.2]?).getD 0) ((plan[2*y.2+1]?).getD 0)).isSome
def worksB (b:HairBook) (plan:List Int):Bool:=fitK b plan&&dyeK b plan
end Go.Proofs.YtonjadhpjkbhnaaDoor
namespace Go.Proofs.YtonjadhpjkbhnaaDoor
open Go Go.Abs Go.Proofs.Th
theorem cutS_snoc (b:HairBook) (k p:Int):∀ (ps:List Int) (v:Nat),cutS b (ps++[p]) v k=cutS b ps v k+bif decide (p=k) then partN b (v+ps.length) else 0
 | [],v=>by simp [cutS]
 | q::ps,v=>by
  rw [List.cons_append,cutS,cutS_snoc b k p ps (v+1),cutS,List.length_cons,show v+1+ps.length=v+(ps.length+1) by omega]
  omega
end Go.Proofs.YtonjadhpjkbhnaaDoor
namespace Go.Proofs.YtonjadhpjkbhnaaDoor
open Go.Abs Go.Proofs.Th
def runY {A S:Type} (c:A→S→Option (S×Bool)):List A→S→Option (S×Bool)
 | [],s=>some (s,true)
 | a::l,s=>(c a s).bind fun r=>bif r.2 then runY c l r.1 else some (r.1,false)
theorem runY_append {A S:Type} (c:A→S→Option (S×Bool)):∀ (l m:List A) (s:S),runY c (l++m) s=(runY c l s).bind fun r=>bif r.2 then runY c m r.1 else some (r.1,false)
 | [],m,s=>by simp [runY]
 | a::l,m,s=>by
  rw [List.cons_append,runY,runY]
  cases c a s with
  | none=>rfl
  | some r=>
   obtain ⟨s',go⟩:=r
   cases go with
   | false=>rfl
   | true=>exact runY_append c l m s'
theorem runY_fold {A S X:Type} {B:A→S→Option (Ctl S X)} (g:S→A→S):∀ (l:List A) (s:S),(∀ a s,a∈l→B a s=some (.next (g s a)))→runY (fun a s=>rndC B a s) l (.next s)=some (.next (l.foldl g s),true)
 | [],s,h=>rfl
 | a::l,s,h=>by
  rw [runY]
  simp only [rndC,h a s (by simp),bsm,isNext,cond_true,List.foldl_cons]
  exact runY_fold g l _ (fun x s hx=>h x s (by simp [hx]))
theorem runY_stop {A S X:Type} {B:A→S→Option (Ctl S X)} (r:X) (l:List A) (s:S) (h:∀ a s,B a s=some (.brk r)):runY (fun a s=>rndC B a s) l (.next s)=some (match l with | []=>(.next s,true) | _::_=>(.brk r,false)):=by
 cases l with
 | nil=>rfl
 | cons a l=>
  rw [runY]
  simp only [rndC,h a s,bsm,isNext]
  rfl
def tr (K:Nat) (ok:List Int→Bool):Nat→List Int→List (List Int)
 | 0,p=>bif ok p then [p] else []
 | n+1,p=>bif ok p then (List.range' 0 K).flatMap fun (k:Nat)=>tr K ok n (p++[(k:Int)]) else []
def allp (K:Nat):Nat→List Int→List (List Int)
 | 0,p=>[p]
 | n+1,p=>(List.range' 0 K).flatMap fun (k:Nat)=>allp K n (p++[(k:Int)])
theorem mem_allp {K:Nat} {q:List Int}:∀ {n:Nat} {p:List Int},q∈allp K n p↔∃ l,q=p++l∧l.length=n∧∀ x,x∈l→0≤x∧x<K
 | 0,p=>by
  rw [allp,List.mem_singleton]
  constructor
  ·rintro rfl;exact ⟨[],by simp,rfl,by simp⟩
  ·rintro ⟨l,h1,h2,h3⟩
   rw [List.length_eq_zero_iff.1 h2] at h1;simpa using h1
 | n+1,p=>by
  rw [allp,List.mem_flatMap]
  constructor
  ·rintro ⟨k,hk,hq⟩
   rw [List.mem_range'_1] at hk
   obtain ⟨l,h1,h2,h3⟩:=mem_allp.1 hq
   refine ⟨(k:Int)::l,by rw [h1];simp,by simp [h2],fun x hx=>?_⟩
   rcases List.mem_cons.1 hx with rfl | hx
   ·omega
   ·exact h3 x hx
  ·rintro ⟨l,h1,h2,h3⟩
   cases l with
   | nil=>simp at h2
   | cons x l=>
    have hx:=h3 x (by simp)
    refine ⟨x.toNat,by rw [List.mem_range'_1];omega,mem_allp.2 ⟨l,?_,by simpa using h2,fun y hy=>h3 y (by simp [hy])⟩⟩
    rw [show ((x.toNat:Nat):Int)=x by omega,h1];simp
theorem allp_pre {K:Nat} {ok:List Int→Bool} (hok:∀ p k,ok (p++[k])=true→ok p=true) {q:List Int}:∀ {n:Nat} {p:List Int},q∈allp K n p→ok q=true→ok p=true
 | 0,p,h,hq=>by
  rw [allp,List.mem_singleton] at h
  rw [← h];exact hq
 | n+1,p,h,hq=>by
  rw [allp,List.mem_flatMap] at h
  obtain ⟨k,_,h⟩:=h
  exact hok _ _ (allp_pre hok h hq)
theorem tr_eq {K:Nat} {ok:List Int→Bool} (hok:∀ p k,ok (p++[k])=true→ok p=true):∀ (n:Nat) (p:List Int),tr K ok n p=(allp K n p).filter ok
 | 0,p=>by
  rw [tr,allp,List.filter_cons]
  cases ok p<;>rfl
 | n+1,p=>by
  rw [tr]
  cases hp:ok p with
  | true=>
   rw [cond_true,allp,List.filter_flatMap]
   congr 1
   funext k
   exact tr_eq hok n _
  | false=>
   rw [cond_false,Eq.comm,List.filter_eq_nil_iff]
   intro q hq hc
   have:=allp_pre hok hq hc
   rw [hp] at this;cases this
theorem eachC_run {α A S:Type} {f:Int→α→S→Option (Ctl S (Bool×S))} (c:A→S→Option (S×Bool)) (L:Nat→List A):∀ (xs:List α) (i:Nat) (s:S),(∀ (j:Nat) x s,i≤j→xs[j - i]?=some x→f (j:Int) x s=(runY c (L j) s).map fun r=>bif r.2 then .next r.1 else .brk (false,r.1)) →
  eachC f xs (i:Int) s=(runY c ((List.range' i xs.length).flatMap L) s).map fun r=>bif r.2 then .next r.1 else .brk (false,r.1)
 | [],i,s,h=>rfl
 | x::xs,i,s,h=>by
  rw [eachC,h i x s (Nat.le_refl _) (by simp),List.length_cons,List.range'_succ,List.flatMap_cons,runY_append]
  cases runY c (L i) s with
  | none=>rfl
  | some r=>
   obtain ⟨s',go⟩:=r
   cases go with
   | false=>rfl
   | true=>
    simp only [Option.map_some,bsm,cond_true]
    rw [show (i:Int)+1=((i+1:Nat):Int) by omega]
    exact eachC_run c L xs (i+1) s' (fun j y s hj hy=>h j y s (by omega) (by
     have:j - i=(j - (i+1))+1:=by omega
     rw [this,List.getElem?_cons_succ];exact hy))
def shH (b:HairBook) (i:Nat):Int:=match b.Horses[i]? with | some x=>x.Shade | none=>0
def dyeQ (b:HairBook) (p:List Int):Bool:=(List.range (p.length / 2)).all fun i=>(dyesF b (shH b i) ((p[2*i]?).getD 0) ((p[2*i+1]?).getD 0)).isSome
def fitP (b:HairBook) (by_:Span→Int) (p:List Int):Bool:=b.Hanks.zipIdx.all fun y=>!decide (by_ y.1.Weight<cutS b p 0 (y.2:Int))
def okP (b:HairBook) (by_:Span→Int) (p:List Int):Bool:=fitP b by_ p&&dyeQ b p
theorem fitP_iff {b:HairBook} {by_:Span→Int} {p:List Int}:fitP b by_ p=true↔∀ (k:Nat) x,b.Hanks[k]?=some x→cutS b p 0 (k:Int)≤by_ x.Weight:=by
 unfold fitP
 rw [List.all_eq_true]
 constructor
 ·intro h k x hx
  have:=h (x,k) (by
   rw [List.mem_iff_getElem?]
   exact ⟨k,by rw [List.getElem?_zipIdx,hx];simp⟩)
  simpa using this
 ·intro h y hy
  rw [List.mem_iff_getElem?] at hy
  obtain ⟨k,hk⟩:=hy
  rw [List.getElem?_zipIdx] at hk
  cases hx:b.Hanks[k]? with
  | none=>rw [hx] at hk;cases hk
  | some x=>
   rw [hx] at hk
   simp only [Option.map_some,Option.some.injEq,Nat.zero_add] at hk
   subst hk
   have:=h k x hx
   simpa using this
theorem all_congr {α:Type} {f g:α→Bool}:∀ {l:List α},(∀ x,x∈l→f x=g x)→l.all f=l.all g
 | [],h=>rfl
 | x::l,h=>by rw [List.all_cons,List.all_cons,h x (by simp),all_congr (fun y hy=>h y (by simp [hy]))]
theorem dyeQ_snoc (b:HairBook) (p:List Int) (k:Int):dyeQ b (p++[k])=(dyeQ b p&&bif decide (p.length % 2=1) then (dyesF b (shH b (p.length / 2)) ((p[p.length - 1]?).getD 0) k).isSome else true):=by
 have hc:∀ i,i<p.length / 2→(dyesF b (shH b i) (((p++[k])[2*i]?).getD 0) (((p++[k])[2*i+1]?).getD 0)).isSome=(dyesF b (shH b i) ((p[2*i]?).getD 0) ((p[2*i+1]?).getD 0)).isSome:=fun i hi=>by
  rw [List.getElem?_append_left (by omega),List.getElem?_append_left (by omega)]
 unfold dyeQ
 rw [List.length_append,List.length_singleton]
 by_cases h:p.length % 2=1
 ·rw [decide_eq_true h,cond_true,show (p.length+1) / 2=p.length / 2+1 by omega,List.range_succ,List.all_append,all_congr (fun i hi=>hc i (List.mem_range.1 hi))]
  congr 1
  rw [List.all_cons,List.all_nil,Bool.and_true,List.getElem?_append_left (by omega),List.getElem?_append_right (by omega),show 2*(p.length / 2)+1 - p.length=0 by omega,show 2*(p.length / 2)=p.length - 1 by omega]
  rfl
 ·rw [decide_eq_false h,cond_false,Bool.and_true,show (p.length+1) / 2=p.length / 2 by omega,all_congr (fun i hi=>hc i (List.mem_range.1 hi))]
theorem fitP_snoc {b:HairBook} (ok:OkH b) {by_:Span→Int} {p:List Int} (hp:fitP b by_ p=true) {k:Nat} {x:HairHank} (hx:b.Hanks[k]?=some x):fitP b by_ (p++[(k:Int)])=!decide (by_ x.Weight<cutS b p 0 (k:Int)+partN b p.length):=by
 rw [fitP_iff] at hp
 rw [Bool.eq_iff_iff,fitP_iff]
 simp only [Bool.not_eq_true',decide_eq_false_iff_not,Int.not_lt]
 constructor
 ·intro h
  have:=h k x hx
  rw [cutS_snoc,decide_eq_true rfl,cond_true,Nat.zero_add] at this
  exact this
 ·intro h j y hy
  rw [cutS_snoc,Nat.zero_add]
  by_cases e:(k:Int)=(j:Int)
  ·have:j=k:=by omega
   subst this
   rw [decide_eq_true rfl,cond_true]
   rw [hx] at hy;cases hy;exact h
  ·rw [decide_eq_false e,cond_false]
   have:=hp j y hy
   omega
theorem okP_snoc {b:HairBook} (ok:OkH b) {by_:Span→Int} {p:List Int} (hp:okP b by_ p=true) {k:Nat} {x:HairHank} (hx:b.Hanks[k]?=some x):okP b by_ (p++[(k:Int)])=(!decide (by_ x.Weight<cutS b p 0 (k:Int)+partN b p.length)&&bif decide (p.length % 2=1) then (dyesF b (shH b (p.length / 2)) ((p[p.length - 1]?).getD 0) (k:Int)).isSome else true):=by
 unfold okP at hp ⊢
 rw [Bool.and_eq_true] at hp
 rw [fitP_snoc ok hp.1 hx,dyeQ_snoc,hp.2,Bool.true_and]
theorem fitP_pre {b:HairBook} (ok:OkH b) {by_:Span→Int} {p:List Int} {k:Int} (h:fitP b by_ (p++[k])=true):fitP b by_ p=true:=by
 rw [fitP_iff] at h ⊢
 intro j x hx
 have:=h j x hx
 rw [cutS_snoc,Nat.zero_add] at this
 have hb:=partN_bd ok p.length
 cases hd:decide (k=(j:Int))<;>rw [hd] at this<;>simp only [cond_true,cond_false] at this<;>omega
theorem okP_pre {b:HairBook} (ok:OkH b) {by_:Span→Int} (p:List Int) (k:Int) (h:okP b by_ (p++[k])=true):okP b by_ p=true:=by
 unfold okP at h ⊢
 rw [Bool.and_eq_true] at h ⊢
 refine ⟨fitP_pre ok h.1,?_⟩
 rw [dyeQ_snoc,Bool.and_eq_true] at h
 exact h.2.1
def cutF (b:HairBook) (p:List Int):Nat→Int:=fun k=>cutS b p 0 (k:Int)
theorem p112 {S:Type} (c:List Int→(Nat→Int)→S→Option (S×Bool)) {b:HairBook} (ok:OkH b) {mf:List (Hair_dye×Span)} (hmf:ShOk b mf):∀ (n fuel:Nat) (p:List Int) (s:S),p.length+n=2*b.Horses.length→n+1≤fuel→(∀ x,x∈p→0≤x∧x<b.Hanks.length)→okP b (·.Low) p=true →
  g112 c fuel p (cutF b p) b mf b mf s=(runY (fun q s=>c q (cutF b q) s) (tr b.Hanks.length (okP b (·.Low)) n p) s).map fun r=>(r.2,r.1)
 | 0,fuel,p,s,hl,hf,hr,ho=>by
  have h3:=ok.l3
  obtain ⟨fuel,rfl⟩:∃ j,fuel=j+1:=⟨fuel - 1,by omega⟩
  rw [g112,wr_in (by omega) (by omega),decide_eq_true (show (p.length:Int)=2*(b.Horses.length:Int) by omega),cond_true,tr,ho,cond_true,runY]
  cases c p (cutF b p) s with
  | none=>rfl
  | some r=>obtain ⟨s',go⟩:=r;cases go<;>rfl
 | n+1,fuel,p,s,hl,hf,hr,ho=>by
  have h3:=ok.l3
  have h4:=ok.l4
  obtain ⟨fuel,rfl⟩:∃ j,fuel=j+1:=⟨fuel - 1,by omega⟩
  have hlt:p.length / 2<b.Horses.length:=by omega
  have hpn:=partN_bd ok p.length
  have hH:=ok.horses _ (List.getElem_mem hlt)
  rw [g112,wr_in (by omega) (by omega),decide_eq_false (show ¬ (p.length:Int)=2*(b.Horses.length:Int) by omega),cond_false,tdiv_nat,tmod_nat,ixN_nat (show p.length % 2<2 by omega)]
  rw [wr_in (show -9223372036854775808≤((p.length / 2:Nat):Int) by omega) (by omega)]
  rw [ixL_nat,List.getElem?_eq_getElem hlt]
  have key:∀ {X:Option Int} {F:Int→Option (Bool×S)} {R:Option (Bool×S)},X=some (partN b p.length)→F (partN b p.length)=R→X.bind F=R:=by
   intro X F R h1 h2;rw [h1];exact h2
  refine key ?_ ?_
  ·unfold partN
   rw [List.getElem?_eq_getElem hlt]
   have hm:p.length % 2=0∨p.length % 2=1:=by omega
   rcases hm with hm | hm<;>rw [hm]<;>rfl
  have hstep:∀ (j:Nat) (x:HairHank) (s:S),0≤j→b.Hanks[j - 0]?=some x→g112_16 (g112 c fuel) p (cutF b p) b mf b mf (partN b p.length) (j:Int) x s=(runY (fun q s=>c q (cutF b q) s) (tr b.Hanks.length (okP b (·.Low)) n (p++[(j:Int)])) s).map fun r=>bif r.2 then .next r.1 else .brk (false,r.1):=fun j x s _ hx=>by
   rw [Nat.sub_zero] at hx
   have hj:=(List.getElem?_eq_some_iff.1 hx).1
   have hcut:=cutS_bd ok (j:Int) p 0
   have hsn:=okP_snoc ok ho hx
   have hshH:shH b (p.length / 2)=b.Horses[p.length / 2].Shade:=by
    unfold shH;rw [List.getElem?_eq_getElem hlt]
   unfold g112_16
   rw [ixN_nat (show j<5 by omega),bsm]
   simp only [g107,bsm]
   rw [show cutF b p j=cutS b p 0 (j:Int) from rfl,wr_in (show -9223372036854775808≤cutS b p 0 (j:Int)+partN b p.length by omega) (by omega)]
   have hgo:okP b (·.Low) (p++[(j:Int)])=true→(slcL p 0 (p.length:Int)).bind (fun l=>(appL 8 l [(j:Int)]).bind fun l1=>(g112 c fuel l1 (aset (cutF b p) j (cutS b p 0 (j:Int)+partN b p.length)) b mf b mf s).bind fun (r:Bool×S)=>bif (!r.1) then some (.brk (false,r.2)) else some (.next r.2))=(runY (fun q s=>c q (cutF b q) s) (tr b.Hanks.length (okP b (·.Low)) n (p++[(j:Int)])) s).map fun r=>bif r.2 then (.next r.1:Ctl S (Bool×S)) else .brk (false,r.1):=fun hk=>by
    rw [slcL_all,bsm,appL_ok (by rw [List.length_append,List.length_singleton];omega),bsm]
    have hw:aset (cutF b p) j (cutS b p 0 (j:Int)+partN b p.length)=cutF b (p++[(j:Int)]):=by
     funext i
     rw [aset_get]
     unfold cutF
     rw [cutS_snoc,Nat.zero_add]
     by_cases e:i=j
     ·subst e;rw [if_pos rfl,decide_eq_true rfl,cond_true]
     ·rw [if_neg e,decide_eq_false (by omega),cond_false,Int.add_zero]
    rw [hw,p112 c ok hmf n fuel (p++[(j:Int)]) s (by rw [List.length_append,List.length_singleton];omega) (by omega) (fun x hx=>by
     rcases List.mem_append.1 hx with hx | hx
     ·exact hr x hx
     ·rw [List.mem_singleton] at hx;omega) hk]
    cases runY (fun q s=>c q (cutF b q) s) (tr b.Hanks.length (okP b (·.Low)) n (p++[(j:Int)])) s with
    | none=>rfl
    | some r=>obtain ⟨s',go⟩:=r;cases go<;>rfl
   have hno:okP b (·.Low) (p++[(j:Int)])=false→(some (.next s):Option (Ctl S (Bool×S)))=(runY (fun q s=>c q (cutF b q) s) (tr b.Hanks.length (okP b (·.Low)) n (p++[(j:Int)])) s).map fun r=>bif r.2 then .next r.1 else .brk (false,r.1):=fun hk=>by
    have:tr b.Hanks.length (okP b (·.Low)) n (p++[(j:Int)])=[]:=by
     cases n<;>rw [tr,hk]<;>rfl
    rw [this];rfl
   by_cases h1:x.Weight.Low<cutS b p 0 (j:Int)+partN b p.length
   ·rw [decide_eq_true h1] at hsn ⊢
    simp only [cond_true,bindC]
    exact hno (by rw [hsn];rfl)
   ·rw [decide_eq_false h1] at hsn ⊢
    simp only [cond_false,Bool.not_false,Bool.true_and] at hsn ⊢
    by_cases h2:p.length % 2=1
    ·have hlast:p.length - 1<p.length:=by omega
     have hlr:=hr _ (List.getElem_mem hlast)
     rw [decide_eq_true h2,cond_true,List.getElem?_eq_getElem hlast,Option.getD_some,hshH] at hsn
     rw [tmod_nat,tdiv_nat,wr_in (show -9223372036854775808≤((p.length / 2:Nat):Int) by omega) (by omega),decide_eq_true (show ((p.length % 2:Nat):Int)=1 by omega),cond_true,wr_in (show -9223372036854775808≤(p.length:Int) - 1 by omega) (by omega),show (p.length:Int) - 1=((p.length - 1:Nat):Int) by omega,ixL_nat,List.getElem?_eq_getElem hlast,bsm,g89,p59 ok hmf (horse:=((p.length / 2:Nat):Int)) (p:=b.Horses[p.length / 2]) (by rw [ixL_nat,List.getElem?_eq_getElem hlt]) hH.2.2 hlr.1 hlr.2 (show (0:Int)≤(j:Int) by omega) (by omega)]
     cases hd:dyesF b b.Horses[p.length / 2].Shade p[p.length - 1] (j:Int) with
     | none=>
      rw [hd] at hsn
      simp only [bsm,Bool.not_false,cond_true,bindC]
      exact hno hsn
     | some d=>
      rw [hd] at hsn
      simp only [bsm,Bool.not_true,cond_false,bindC]
      exact hgo hsn
    ·rw [decide_eq_false h2,cond_false] at hsn
     rw [tmod_nat,decide_eq_false (show ¬ ((p.length % 2:Nat):Int)=1 by omega),cond_false]
     simp only [bindC,bsm]
     exact hgo hsn
  have:=eachC_run (f:=g112_16 (g112 c fuel) p (cutF b p) b mf b mf (partN b p.length)) (fun q s=>c q (cutF b q) s) (fun j=>tr b.Hanks.length (okP b (·.Low)) n (p++[(j:Int)])) b.Hanks 0 s hstep
  rw [show ((0:Nat):Int)=0 from rfl] at this
  rw [this,tr,ho,cond_true]
  cases runY (fun q s=>c q (cutF b q) s) ((List.range' 0 b.Hanks.length).flatMap fun (k:Nat)=>tr b.Hanks.length (okP b (·.Low)) n (p++[(k:Int)])) s with
  | none=>rfl
  | some r=>obtain ⟨s',go⟩:=r;cases go<;>rfl
theorem p112a {S:Type} (c:List Int→(Nat→Int)→S→Option (S×Bool)) {b:HairBook} (ok:OkH b) {mf:List (Hair_dye×Span)} (hmf:ShOk b mf):∀ (n fuel:Nat) (p:List Int) (s:S),p.length+n=2*b.Horses.length→n+1≤fuel→(∀ x,x∈p→0≤x∧x<b.Hanks.length)→okP b (·.High) p=true →
  g112a c fuel p (cutF b p) b mf b mf s=(runY (fun q s=>c q (cutF b q) s) (tr b.Hanks.length (okP b (·.High)) n p) s).map fun r=>(r.2,r.1)
 | 0,fuel,p,s,hl,hf,hr,ho=>by
  have h3:=ok.l3
  obtain ⟨fuel,rfl⟩:∃ j,fuel=j+1:=⟨fuel - 1,by omega⟩
  rw [g112a,wr_in (by omega) (by omega),decide_eq_true (show (p.length:Int)=2*(b.Horses.length:Int) by omega),cond_true,tr,ho,cond_true,runY]
  cases c p (cutF b p) s with
  | none=>rfl
  | some r=>obtain ⟨s',go⟩:=r;cases go<;>rfl
 | n+1,fuel,p,s,hl,hf,hr,ho=>by
  have h3:=ok.l3
  have h4:=ok.l4
  obtain ⟨fuel,rfl⟩:∃ j,fuel=j+1:=⟨fuel - 1,by omega⟩
  have hlt:p.length / 2<b.Horses.length:=by omega
  have hpn:=partN_bd ok p.length
  have hH:=ok.horses _ (List.getElem_mem hlt)
  rw [g112a,wr_in (by omega) (by omega),decide_eq_false (show ¬ (p.length:Int)=2*(b.Horses.length:Int) by omega),cond_false,tdiv_nat,tmod_nat,ixN_nat (show p.length % 2<2 by omega)]
  rw [wr_in (show -9223372036854775808≤((p.length / 2:Nat):Int) by omega) (by omega)]
  rw [ixL_nat,List.getElem?_eq_getElem hlt]
  have key:∀ {X:Option Int} {F:Int→Option (Bool×S)} {R:Option (Bool×S)},X=some (partN b p.length)→F (partN b p.length)=R→X.bind F=R:=by
   intro X F R h1 h2;rw [h1];exact h2
  refine key ?_ ?_
  ·unfold partN
   rw [List.getElem?_eq_getElem hlt]
   have hm:p.length % 2=0∨p.length % 2=1:=by omega
   rcases hm with hm | hm<;>rw [hm]<;>rfl
  have hstep:∀ (j:Nat) (x:HairHank) (s:S),0≤j→b.Hanks[j - 0]?=some x→g112a_16 (g112a c fuel) p (cutF b p) b mf b mf (partN b p.length) (j:Int) x s=(runY (fun q s=>c q (cutF b q) s) (tr b.Hanks.length (okP b (·.High)) n (p++[(j:Int)])) s).map fun r=>bif r.2 then .next r.1 else .brk (false,r.1):=fun j x s _ hx=>by
   rw [Nat.sub_zero] at hx
   have hj:=(List.getElem?_eq_some_iff.1 hx).1
   have hcut:=cutS_bd ok (j:Int) p 0
   have hsn:=okP_snoc ok ho hx
   have hshH:shH b (p.length / 2)=b.Horses[p.length / 2].Shade:=by
    unfold shH;rw [List.getElem?_eq_getElem hlt]
   unfold g112a_16
   rw [ixN_nat (show j<5 by omega),bsm]
   simp only [g108,bsm]
   rw [show cutF b p j=cutS b p 0 (j:Int) from rfl,wr_in (show -9223372036854775808≤cutS b p 0 (j:Int)+partN b p.length by omega) (by omega)]
   have hgo:okP b (·.High) (p++[(j:Int)])=true→(slcL p 0 (p.length:Int)).bind (fun l=>(appL 8 l [(j:Int)]).bind fun l1=>(g112a c fuel l1 (aset (cutF b p) j (cutS b p 0 (j:Int)+partN b p.length)) b mf b mf s).bind fun (r:Bool×S)=>bif (!r.1) then some (.brk (false,r.2)) else some (.next r.2))=(runY (fun q s=>c q (cutF b q) s) (tr b.Hanks.length (okP b (·.High)) n (p++[(j:Int)])) s).map fun r=>bif r.2 then (.next r.1:Ctl S (Bool×S)) else .brk (false,r.1):=fun hk=>by
    rw [slcL_all,bsm,appL_ok (by rw [List.length_append,List.length_singleton];omega),bsm]
    have hw:aset (cutF b p) j (cutS b p 0 (j:Int)+partN b p.length)=cutF b (p++[(j:Int)]):=by
     funext i
     rw [aset_get]
     unfold cutF
     rw [cutS_snoc,Nat.zero_add]
     by_cases e:i=j
     ·subst e;rw [if_pos rfl,decide_eq_true rfl,cond_true]
     ·rw [if_neg e,decide_eq_false (by omega),cond_false,Int.add_zero]
    rw [hw,p112a c ok hmf n fuel (p++[(j:Int)]) s (by rw [List.length_append,List.length_singleton];omega) (by omega) (fun x hx=>by
     rcases List.mem_append.1 hx with hx | hx
     ·exact hr x hx
     ·rw [List.mem_singleton] at hx;omega) hk]
    cases runY (fun q s=>c q (cutF b q) s) (tr b.Hanks.length (okP b (·.High)) n (p++[(j:Int)])) s with
    | none=>rfl
    | some r=>obtain ⟨s',go⟩:=r;cases go<;>rfl
   have hno:okP b (·.High) (p++[(j:Int)])=false→(some (.next s):Option (Ctl S (Bool×S)))=(runY (fun q s=>c q (cutF b q) s) (tr b.Hanks.length (okP b (·.High)) n (p++[(j:Int)])) s).map fun r=>bif r.2 then .next r.1 else .brk (false,r.1):=fun hk=>by
    have:tr b.Hanks.length (okP b (·.High)) n (p++[(j:Int)])=[]:=by
     cases n<;>rw [tr,hk]<;>rfl
    rw [this];rfl
   by_cases h1:x.Weight.High<cutS b p 0 (j:Int)+partN b p.length
   ·rw [decide_eq_true h1] at hsn ⊢
    simp only [cond_true,bindC]
    exact hno (by rw [hsn];rfl)
   ·rw [decide_eq_false h1] at hsn ⊢
    simp only [cond_false,Bool.not_false,Bool.true_and] at hsn ⊢
    by_cases h2:p.length % 2=1
    ·have hlast:p.length - 1<p.length:=by omega
     have hlr:=hr _ (List.getElem_mem hlast)
     rw [decide_eq_true h2,cond_true,List.getElem?_eq_getElem hlast,Option.getD_some,hshH] at hsn
     rw [tmod_nat,tdiv_nat,wr_in (show -9223372036854775808≤((p.length / 2:Nat):Int) by omega) (by omega),decide_eq_true (show ((p.length % 2:Nat):Int)=1 by omega),cond_true,wr_in (show -9223372036854775808≤(p.length:Int) - 1 by omega) (by omega),show (p.length:Int) - 1=((p.length - 1:Nat):Int) by omega,ixL_nat,List.getElem?_eq_getElem hlast,bsm,g89,p59 ok hmf (horse:=((p.length / 2:Nat):Int)) (p:=b.Horses[p.length / 2]) (by rw [ixL_nat,List.getElem?_eq_getElem hlt]) hH.2.2 hlr.1 hlr.2 (show (0:Int)≤(j:Int) by omega) (by omega)]
     cases hd:dyesF b b.Horses[p.length / 2].Shade p[p.length - 1] (j:Int) with
     | none=>
      rw [hd] at hsn
      simp only [bsm,Bool.not_false,cond_true,bindC]
      exact hno hsn
     | some d=>
      rw [hd] at hsn
      simp only [bsm,Bool.not_true,cond_false,bindC]
      exact hgo hsn
    ·rw [decide_eq_false h2,cond_false] at hsn
     rw [tmod_nat,decide_eq_false (show ¬ ((p.length % 2:Nat):Int)=1 by omega),cond_false]
     simp only [bindC,bsm]
     exact hgo hsn
  have:=eachC_run (f:=g112a_16 (g112a c fuel) p (cutF b p) b mf b mf (partN b p.length)) (fun q s=>c q (cutF b q) s) (fun j=>tr b.Hanks.length (okP b (·.High)) n (p++[(j:Int)])) b.Hanks 0 s hstep
  rw [show ((0:Nat):Int)=0 from rfl] at this
  rw [this,tr,ho,cond_true]
  cases runY (fun q s=>c q (cutF b q) s) ((List.range' 0 b.Hanks.length).flatMap fun (k:Nat)=>tr b.Hanks.length (okP b (·.High)) n (p++[(k:Int)])) s with
  | none=>rfl
  | some r=>obtain ⟨s',go⟩:=r;cases go<;>rfl
def plansL (b:HairBook) (by_:Span→Int):List (List Int):=(allp b.Hanks.length (2*b.Horses.length) []).filter (okP b by_)
theorem okP_nil {b:HairBook} {by_:Span→Int} (h:∀ x,x∈b.Hanks→0≤by_ x.Weight):okP b by_ []=true:=by
 unfold okP
 rw [Bool.and_eq_true]
 refine ⟨fitP_iff.2 fun k x hx=>?_,rfl⟩
 have:=h x (List.mem_of_getElem? hx)
 simp only [cutS];exact this
theorem cutF_nil (b:HairBook):arrL [(0:Int),0,0,0,0]=cutF b []:=by
 funext k
 match k with
 | 0=>rfl
 | 1=>rfl
 | 2=>rfl
 | 3=>rfl
 | 4=>rfl
 | k+5=>rfl
theorem p111 {S:Type} (c:List Int→(Nat→Int)→S→Option (S×Bool)) {b:HairBook} (ok:OkH b) {mf:List (Hair_dye×Span)} (hmf:ShOk b mf) (s:S):g111 c b mf b mf s=(runY (fun q s=>c q (cutF b q) s) (plansL b (·.Low)) s).map (·.1):=by
 have h3:=ok.l3
 unfold g111 g105
 rw [bsm,cutF_nil b,p112 c ok hmf (2*b.Horses.length) 1000 [] s (by simp) (by omega) (by simp) (okP_nil fun x hx=>by have:=(ok.hanks x hx).w;omega),tr_eq (okP_pre ok)]
 unfold plansL
 cases runY (fun q s=>c q (cutF b q) s) ((allp b.Hanks.length (2*b.Horses.length) []).filter (okP b (·.Low))) s<;>rfl
theorem p111a {S:Type} (c:List Int→(Nat→Int)→S→Option (S×Bool)) {b:HairBook} (ok:OkH b) {mf:List (Hair_dye×Span)} (hmf:ShOk b mf) (s:S):g111a c b mf b mf s=(runY (fun q s=>c q (cutF b q) s) (plansL b (·.High)) s).map (·.1):=by
 have h3:=ok.l3
 unfold g111a g105
 rw [bsm,cutF_nil b,p112a c ok hmf (2*b.Horses.length) 1000 [] s (by simp) (by omega) (by simp) (okP_nil fun x hx=>by have:=(ok.hanks x hx).w;omega),tr_eq (okP_pre ok)]
 unfold plansL
 cases runY (fun q s=>c q (cutF b q) s) ((allp b.Hanks.length (2*b.Horses.length) []).filter (okP b (·.High))) s<;>rfl
def servedB (b:HairBook):Bool:=!(plansL b (·.Low)).isEmpty
theorem p84 {b:HairBook} (ok:OkH b) {mf:List (Hair_dye×Span)} (hmf:ShOk b mf):g84 b mf=some (servedB b):=by
 unfold g84 g76 g88
 rw [bsm,bsm]
 simp only
 rw [p111 _ ok hmf]
 have:=runY_stop (B:=fun q u=>g84_r5 (q,cutF b q) u) (X:=Unit) () (plansL b (·.Low)) () (fun a s=>rfl)
 unfold servedB
 have e:runY (fun q s=>rndC g84_r5 (q,cutF b q) s) (plansL b (·.Low)) (.next ())=runY (fun a s=>rndC (fun q u=>g84_r5 (q,cutF b q) u) a s) (plansL b (·.Low)) (.next ()):=by
  congr 1
 rw [e,this]
 cases plansL b (·.Low)<;>rfl
theorem dyeQ_full {b:HairBook} {p:List Int} (hp:p.length=2*b.Horses.length):dyeQ b p=dyeK b p:=by
 unfold dyeQ dyeK
 rw [hp,show 2*b.Horses.length / 2=b.Horses.length by omega,Bool.eq_iff_iff,List.all_eq_true,List.all_eq_true]
 constructor
 ·intro h y hy
  rw [List.mem_iff_getElem?] at hy
  obtain ⟨k,hk⟩:=hy
  rw [List.getElem?_zipIdx] at hk
  cases hx:b.Horses[k]? with
  | none=>rw [hx] at hk;cases hk
  | some x=>
   rw [hx] at hk
   simp only [Option.map_some,Option.some.injEq,Nat.zero_add] at hk
   subst hk
   have:=h k (List.mem_range.2 (List.getElem?_eq_some_iff.1 hx).1)
   unfold shH at this
   rw [hx] at this
   exact this
 ·intro h k hk
  have hlt:=List.mem_range.1 hk
  have:=h (b.Horses[k],k) (by
   rw [List.mem_iff_getElem?]
   exact ⟨k,by rw [List.getElem?_zipIdx,List.getElem?_eq_getElem hlt];simp⟩)
  unfold shH
  rw [List.getElem?_eq_getElem hlt]
  exact this
theorem planB_iff {b:HairBook} {p:List Int}:planB b p=true↔p.length=2*b.Horses.length∧∀ n,n∈p→0≤n∧n<b.Hanks.length:=by
 constructor
 ·intro h;have:=plan_of h;exact ⟨this.len,this.rng⟩
 ·rintro ⟨h1,h2⟩
  simp only [planB,Bool.and_eq_true,decide_eq_true_eq,List.all_eq_true,rg_iff]
  exact ⟨by omega,fun n hn=>by have:=h2 n hn;omega⟩
theorem mem_allP {b:HairBook} {p:List Int}:p∈allp b.Hanks.length (2*b.Horses.length) []↔planB b p=true:=by
 rw [mem_allp,planB_iff]
 constructor
 ·rintro ⟨l,h1,h2,h3⟩
  rw [List.nil_append] at h1
  subst h1;exact ⟨h2,h3⟩
 ·rintro ⟨h1,h2⟩;exact ⟨p,rfl,h1,h2⟩
theorem mem_plans {b:HairBook} {p:List Int}:p∈plansL b (·.Low)↔planB b p=true∧worksB b p=true:=by
 unfold plansL
 rw [List.mem_filter,mem_allP]
 constructor
 ·rintro ⟨h1,h2⟩
  refine ⟨h1,?_⟩
  unfold okP at h2
  rw [dyeQ_full (planB_iff.1 h1).1] at h2
  exact h2
 ·rintro ⟨h1,h2⟩
  refine ⟨h1,?_⟩
  unfold okP
  rw [dyeQ_full (planB_iff.1 h1).1]
  exact h2
theorem served_iff {b:HairBook}:servedB b=true↔∃ p,planB b p=true∧worksB b p=true:=by
 unfold servedB
 constructor
 ·intro h
  cases hl:plansL b (·.Low) with
  | nil=>rw [hl] at h;cases h
  | cons p l=>exact ⟨p,mem_plans.1 (by rw [hl];simp)⟩
 ·rintro ⟨p,hp⟩
  cases hl:plansL b (·.Low) with
  | nil=>have:=mem_plans.2 hp;rw [hl] at this;cases this
  | cons q l=>rfl
end Go.Proofs.YtonjadhpjkbhnaaDoor
namespace Go.Proofs.YtonjadhpjkbhnaaDoor
open Go.Abs Go.Proofs.Th
theorem dyesF_some {b:HairBook} {want mane tail:Int} {d:Int×Int} (h:dyesF b want mane tail=some d):0≤d.1∧d.1≤b.Dark∧0≤d.2∧d.2≤b.Dark∧mB b want mane tail d.1 d.2=true:=by
 unfold dyesF at h
 cases hf:firstI (fun m=>(firstI (fun t=>mB b want mane tail m t) (b.Dark+1).toNat 0).isSome) (b.Dark+1).toNat 0 with
 | none=>rw [hf] at h;cases h
 | some m=>
  rw [hf] at h
  obtain ⟨m1,m2,m3,_⟩:=firstI_some hf
  cases hg:firstI (fun t=>mB b want mane tail m t) (b.Dark+1).toNat 0 with
  | none=>rw [hg] at m3;cases m3
  | some t=>
   obtain ⟨t1,t2,t3,_⟩:=firstI_some hg
   rw [Option.map_some,hg] at h
   cases h
   exact ⟨m1,by omega,t1,by simp only [Option.getD_some];omega,t3⟩
end Go.Proofs.YtonjadhpjkbhnaaDoor
namespace Go.Proofs.YtonjadhpjkbhnaaDoor
open Go.Abs Go.Proofs.Th
theorem partN_pos {b:HairBook} (ok:OkH b) {v:Nat} (h:v<2*b.Horses.length):1≤partN b v:=by
 have hlt:v / 2<b.Horses.length:=by omega
 have hx:=ok.horses _ (List.getElem_mem hlt)
 unfold partN
 rw [List.getElem?_eq_getElem hlt]
 simp only
 cases decide (v % 2=0)<;>simp only [cond_true,cond_false]<;>omega
theorem cutS_pos {b:HairBook} (ok:OkH b) (k:Int):∀ (ps:List Int) (v:Nat),v+ps.length≤2*b.Horses.length→(0<cutS b ps v k↔k∈ps)
 | [],v,h=>by simp [cutS]
 | p::ps,v,h=>by
  simp only [List.length_cons] at h
  have h1:=partN_pos ok (show v<2*b.Horses.length by omega)
  have h2:=cutS_bd ok k ps (v+1)
  have ih:=cutS_pos ok k ps (v+1) (by omega)
  rw [cutS,List.mem_cons]
  by_cases e:p=k
  ·rw [decide_eq_true e,cond_true]
   exact ⟨fun _=>.inl e.symm,fun _=>by omega⟩
  ·rw [decide_eq_false e,cond_false,Int.zero_add,ih]
   exact ⟨fun h=>.inr h,fun h=>h.resolve_left fun h=>e h.symm⟩
end Go.Proofs.YtonjadhpjkbhnaaDoor
set_option maxRecDepth 100000
namespace Go.Proofs.YtonjadhpjkbhnaaDoor
open Go Go.Abs Go.Proofs.Th
def LT (H s:Nat):List Int:=(g48 (s:Int) (H:Int)).getD []
def rk (H s:Nat):Nat:=((List.range (2 ^ H)).filter fun t=>g49 (LT H t) (LT H s)==some true).length
def keepL (xs:List HairHorse) (l:List Int):List HairHorse:=(xs.zipIdx.filter fun y=>!decide ((y.2:Int)∈l)).map (·.1)
def cmpP (l best:List Int):Option Bool:=bif (decide ((best.length:Int)<(l.length:Int))) then (some true) else (bif (decide ((l.length:Int)=(best.length:Int))) then ((g83 l best).bind fun r0_3=>some (decide (0≤r0_3))) else (some false))
theorem factC:((List.range 4).all fun T=>(List.range (2 ^ T)).all fun s=>(List.range (2 ^ T)).all fun t=>cmpP (LT T s) (LT T t)==some (!decide (rk T s<rk T t)))=true:=by kernel_rfl
theorem factS:((List.range 4).all fun T=>shl64 1 (T:Int)==((2 ^ T:Nat):Int))=true:=by kernel_rfl
theorem factZ:((List.range 4).all fun T=>(LT T 0==[])&&(rk T 0==0)&&((LT T (2 ^ T - 1)).length==T)&&((List.range (2 ^ T)).all fun s=>(s==0)||!((LT T s).length==0)))=true:=by kernel_rfl
theorem all2 {P:Nat→Nat→Bool} (h:((List.range 4).all fun T=>(List.range (2 ^ T)).all fun s=>P T s)=true) {T s:Nat} (hT:T≤3) (hs:s<2 ^ T):P T s=true:=by
 rw [List.all_eq_true] at h
 have:=h T (List.mem_range.2 (by omega))
 rw [List.all_eq_true] at this
 exact this s (List.mem_range.2 hs)
theorem all3 {P:Nat→Nat→Nat→Bool} (h:((List.range 4).all fun T=>(List.range (2 ^ T)).all fun s=>(List.range (2 ^ T)).all fun t=>P T s t)=true) {T s t:Nat} (hT:T≤3) (hs:s<2 ^ T) (ht:t<2 ^ T):P T s t=true:=by
 have:=all2 h hT hs
 rw [List.all_eq_true] at this
 exact this t (List.mem_range.2 ht)
theorem fC {T s t:Nat} (hT:T≤3) (hs:s<2 ^ T) (ht:t<2 ^ T):cmpP (LT T s) (LT T t)=some (!decide (rk T s<rk T t)):=by
 have:=all3 factC hT hs ht
 rw [beq_iff_eq] at this;exact this
theorem fS {T:Nat} (hT:T≤3):shl64 1 (T:Int)=((2 ^ T:Nat):Int):=by
 have:=factS
 rw [List.all_eq_true] at this
 have:=this T (List.mem_range.2 (by omega))
 rw [beq_iff_eq] at this;exact this
theorem fz0 {T:Nat} (hT:T≤3):LT T 0=[]∧rk T 0=0∧(LT T (2 ^ T - 1)).length=T∧∀ s,s<2 ^ T→(LT T s).length=0→s=0:=by
 have:=factZ
 rw [List.all_eq_true] at this
 have:=this T (List.mem_range.2 (by omega))
 rw [Bool.and_eq_true,Bool.and_eq_true,Bool.and_eq_true,beq_iff_eq,beq_iff_eq,beq_iff_eq,List.all_eq_true] at this
 obtain ⟨⟨⟨h1,h2⟩,h3⟩,h4⟩:=this
 refine ⟨h1,h2,h3,fun s hs h=>?_⟩
 have:=h4 s (List.mem_range.2 hs)
 rw [Bool.or_eq_true,beq_iff_eq,h] at this
 simpa using this
theorem pow_pos' (T:Nat):1≤2 ^ T:=Nat.one_le_two_pow
theorem pow_le' {T:Nat} (hT:T≤3):2 ^ T≤8:=Nat.pow_le_pow_right (by decide) hT
theorem ks0_0:eachS (g29_14 0) ([]:List HairHorse) 0 (([],[]):List Int×List HairHorse)=some (LT 0 0,keepL [] (LT 0 0)):=by kernel_rfl
theorem kl0_0:(keepL [] (LT 0 0)).length+(LT 0 0).length=0:=by kernel_rfl
theorem ks1_0 (a:HairHorse):eachS (g29_14 0) ([a]:List HairHorse) 0 (([],[]):List Int×List HairHorse)=some (LT 1 0,keepL [a] (LT 1 0)):=by kernel_rfl
theorem kl1_0 (a:HairHorse):(keepL [a] (LT 1 0)).length+(LT 1 0).length=1:=by kernel_rfl
theorem ks1_1 (a:HairHorse):eachS (g29_14 1) ([a]:List HairHorse) 0 (([],[]):List Int×List HairHorse)=some (LT 1 1,keepL [a] (LT 1 1)):=by kernel_rfl
theorem kl1_1 (a:HairHorse):(keepL [a] (LT 1 1)).length+(LT 1 1).length=1:=by kernel_rfl
theorem ks2_0 (a b:HairHorse):eachS (g29_14 0) ([a,b]:List HairHorse) 0 (([],[]):List Int×List HairHorse)=some (LT 2 0,keepL [a,b] (LT 2 0)):=by kernel_rfl
theorem kl2_0 (a b:HairHorse):(keepL [a,b] (LT 2 0)).length+(LT 2 0).length=2:=by kernel_rfl
theorem ks2_1 (a b:HairHorse):eachS (g29_14 1) ([a,b]:List HairHorse) 0 (([],[]):List Int×List HairHorse)=some (LT 2 1,keepL [a,b] (LT 2 1)):=by kernel_rfl
theorem kl2_1 (a b:HairHorse):(keepL [a,b] (LT 2 1)).length+(LT 2 1).length=2:=by kernel_rfl
theorem ks2_2 (a b:HairHorse):eachS (g29_14 2) ([a,b]:List HairHorse) 0 (([],[]):List Int×List HairHorse)=some (LT 2 2,keepL [a,b] (LT 2 2)):=by kernel_rfl
theorem kl2_2 (a b:HairHorse):(keepL [a,b] (LT 2 2)).length+(LT 2 2).length=2:=by kernel_rfl
theorem ks2_3 (a b:HairHorse):eachS (g29_14 3) ([a,b]:List HairHorse) 0 (([],[]):List Int×List HairHorse)=some (LT 2 3,keepL [a,b] (LT 2 3)):=by kernel_rfl
theorem kl2_3 (a b:HairHorse):(keepL [a,b] (LT 2 3)).length+(LT 2 3).length=2:=by kernel_rfl
theorem ks3_0 (a b c:HairHorse):eachS (g29_14 0) ([a,b,c]:List HairHorse) 0 (([],[]):List Int×List HairHorse)=some (LT 3 0,keepL [a,b,c] (LT 3 0)):=by kernel_rfl
theorem kl3_0 (a b c:HairHorse):(keepL [a,b,c] (LT 3 0)).length+(LT 3 0).length=3:=by kernel_rfl
theorem ks3_1 (a b c:HairHorse):eachS (g29_14 1) ([a,b,c]:List HairHorse) 0 (([],[]):List Int×List HairHorse)=some (LT 3 1,keepL [a,b,c] (LT 3 1)):=by kernel_rfl
theorem kl3_1 (a b c:HairHorse):(keepL [a,b,c] (LT 3 1)).length+(LT 3 1).length=3:=by kernel_rfl
theorem ks3_2 (a b c:HairHorse):eachS (g29_14 2) ([a,b,c]:List HairHorse) 0 (([],[]):List Int×List HairHorse)=some (LT 3 2,keepL [a,b,c] (LT 3 2)):=by kernel_rfl
theorem kl3_2 (a b c:HairHorse):(keepL [a,b,c] (LT 3 2)).length+(LT 3 2).length=3:=by kernel_rfl
theorem ks3_3 (a b c:HairHorse):eachS (g29_14 3) ([a,b,c]:List HairHorse) 0 (([],[]):List Int×List HairHorse)=some (LT 3 3,keepL [a,b,c] (LT 3 3)):=by kernel_rfl
theorem kl3_3 (a b c:HairHorse):(keepL [a,b,c] (LT 3 3)).length+(LT 3 3).length=3:=by kernel_rfl
theorem ks3_4 (a b c:HairHorse):eachS (g29_14 4) ([a,b,c]:List HairHorse) 0 (([],[]):List Int×List HairHorse)=some (LT 3 4,keepL [a,b,c] (LT 3 4)):=by kernel_rfl
theorem kl3_4 (a b c:HairHorse):(keepL [a,b,c] (LT 3 4)).length+(LT 3 4).length=3:=by kernel_rfl
theorem ks3_5 (a b c:HairHorse):eachS (g29_14 5) ([a,b,c]:List HairHorse) 0 (([],[]):List Int×List HairHorse)=some (LT 3 5,keepL [a,b,c] (LT 3 5)):=by kernel_rfl
theorem kl3_5 (a b c:HairHorse):(keepL [a,b,c] (LT 3 5)).length+(LT 3 5).length=3:=by kernel_rfl
theorem ks3_6 (a b c:HairHorse):eachS (g29_14 6) ([a,b,c]:List HairHorse) 0 (([],[]):List Int×List HairHorse)=some (LT 3 6,keepL [a,b,c] (LT 3 6)):=by kernel_rfl
theorem kl3_6 (a b c:HairHorse):(keepL [a,b,c] (LT 3 6)).length+(LT 3 6).length=3:=by kernel_rfl
theorem ks3_7 (a b c:HairHorse):eachS (g29_14 7) ([a,b,c]:List HairHorse) 0 (([],[]):List Int×List HairHorse)=some (LT 3 7,keepL [a,b,c] (LT 3 7)):=by kernel_rfl
theorem kl3_7 (a b c:HairHorse):(keepL [a,b,c] (LT 3 7)).length+(LT 3 7).length=3:=by kernel_rfl
theorem ks {xs:List HairHorse} (hl:xs.length≤3) {s:Nat} (hs:s<2 ^ xs.length):eachS (g29_14 (s:Int)) xs 0 (([],[]):List Int×List HairHorse)=some (LT xs.length s,keepL xs (LT xs.length s)):=by
 match xs,hl,s,hs with
 | [],_,0,_=>exact ks0_0
 | [],_,s+1,hs=>exact absurd hs (by simp)
 | [a],_,0,_=>exact ks1_0 a
 | [a],_,1,_=>exact ks1_1 a
 | [a],_,s+2,hs=>exact absurd hs (by simp)
 | [a,b],_,0,_=>exact ks2_0 a b
 | [a,b],_,1,_=>exact ks2_1 a b
 | [a,b],_,2,_=>exact ks2_2 a b
 | [a,b],_,3,_=>exact ks2_3 a b
 | [a,b],_,s+4,hs=>exact absurd hs (by simp)
 | [a,b,c],_,0,_=>exact ks3_0 a b c
 | [a,b,c],_,1,_=>exact ks3_1 a b c
 | [a,b,c],_,2,_=>exact ks3_2 a b c
 | [a,b,c],_,3,_=>exact ks3_3 a b c
 | [a,b,c],_,4,_=>exact ks3_4 a b c
 | [a,b,c],_,5,_=>exact ks3_5 a b c
 | [a,b,c],_,6,_=>exact ks3_6 a b c
 | [a,b,c],_,7,_=>exact ks3_7 a b c
 | [a,b,c],_,s+8,hs=>exact absurd hs (by simp)
 | _::_::_::_::_,hl,_,_=>exact absurd hl (by simp)
theorem kl {xs:List HairHorse} (hl:xs.length≤3) {s:Nat} (hs:s<2 ^ xs.length):(keepL xs (LT xs.length s)).length+(LT xs.length s).length=xs.length:=by
 match xs,hl,s,hs with
 | [],_,0,_=>exact kl0_0
 | [],_,s+1,hs=>exact absurd hs (by simp)
 | [a],_,0,_=>exact kl1_0 a
 | [a],_,1,_=>exact kl1_1 a
 | [a],_,s+2,hs=>exact absurd hs (by simp)
 | [a,b],_,0,_=>exact kl2_0 a b
 | [a,b],_,1,_=>exact kl2_1 a b
 | [a,b],_,2,_=>exact kl2_2 a b
 | [a,b],_,3,_=>exact kl2_3 a b
 | [a,b],_,s+4,hs=>exact absurd hs (by simp)
 | [a,b,c],_,0,_=>exact kl3_0 a b c
 | [a,b,c],_,1,_=>exact kl3_1 a b c
 | [a,b,c],_,2,_=>exact kl3_2 a b c
 | [a,b,c],_,3,_=>exact kl3_3 a b c
 | [a,b,c],_,4,_=>exact kl3_4 a b c
 | [a,b,c],_,5,_=>exact kl3_5 a b c
 | [a,b,c],_,6,_=>exact kl3_6 a b c
 | [a,b,c],_,7,_=>exact kl3_7 a b c
 | [a,b,c],_,s+8,hs=>exact absurd hs (by simp)
 | _::_::_::_::_,hl,_,_=>exact absurd hl (by simp)
def woS (b:HairBook) (s:Nat):HairBook:=⟨b.Hanks,keepL b.Horses (LT b.Horses.length s),b.Dark,b.Near,b.Match⟩
theorem keepL_mem {xs:List HairHorse} {l:List Int} {x:HairHorse} (h:x∈keepL xs l):x∈xs:=by
 unfold keepL at h
 rw [List.mem_map] at h
 obtain ⟨y,hy,rfl⟩:=h
 have hm:=(List.mem_filter.1 hy).1
 rw [List.mem_iff_getElem?] at hm
 obtain ⟨k,hk⟩:=hm
 rw [List.getElem?_zipIdx] at hk
 cases hx:xs[k]? with
 | none=>rw [hx] at hk;cases hk
 | some z=>
  rw [hx] at hk
  simp only [Option.map_some,Option.some.injEq] at hk
  rw [← hk]
  exact List.mem_of_getElem? hx
theorem keepL_nil (xs:List HairHorse):keepL xs []=xs:=by
 unfold keepL
 have:(xs.zipIdx.filter fun y=>!decide ((y.2:Int)∈([]:List Int)))=xs.zipIdx:=List.filter_eq_self.2 (fun y _=>by simp)
 rw [this]
 apply List.ext_getElem?
 intro k
 rw [List.getElem?_map,List.getElem?_zipIdx]
 cases xs[k]?<;>rfl
theorem keepL_len (xs:List HairHorse) (l:List Int):(keepL xs l).length≤xs.length:=by
 unfold keepL
 rw [List.length_map]
 exact Nat.le_trans (List.length_filter_le _ _) (by rw [List.length_zipIdx];exact Nat.le_refl _)
theorem okW {b:HairBook} (hok:okH b=true) (s:Nat):okH (woS b s)=true:=by
 have hl:=keepL_len b.Horses (LT b.Horses.length s)
 unfold okH at hok ⊢
 simp only [Bool.and_eq_true,decide_eq_true_eq,List.all_eq_true] at hok ⊢
 obtain ⟨⟨⟨⟨⟨⟨h1,h2⟩,h3⟩,h4⟩,h5⟩,h6⟩,h7⟩:=hok
 refine ⟨⟨⟨⟨⟨⟨h1,?_⟩,h3⟩,h4⟩,h5⟩,h6⟩,fun x hx=>h7 x (keepL_mem hx)⟩
 simp only [woS]
 omega
theorem wo0 {b:HairBook} (hl:b.Horses.length≤3):woS b 0=b:=by
 unfold woS
 rw [(fz0 hl).1,keepL_nil]
theorem served_none {b:HairBook} (ok:OkH b) (h:b.Horses.length=0):servedB b=true:=by
 rw [served_iff]
 refine ⟨[],planB_iff.2 ⟨by simp [h],by simp⟩,?_⟩
 have:b.Horses=[]:=List.length_eq_zero_iff.1 h
 have hf:=okP_nil (b:=b) (by_:=fun s=>s.Low) (fun x hx=>by have:=(ok.hanks x hx).w;omega)
 unfold okP at hf
 rw [Bool.and_eq_true] at hf
 unfold worksB dyeK
 rw [this]
 rw [show fitK b []=fitP b (fun s=>s.Low) [] from rfl,hf.1]
 rfl
theorem served_all {b:HairBook} (hok:okH b=true):servedB (woS b (2 ^ b.Horses.length - 1))=true:=by
 have ok:=okH_of hok
 have h3:=ok.l3
 have hp:=pow_pos' b.Horses.length
 refine served_none (okH_of (okW hok _)) ?_
 have:=kl h3 (s:=2 ^ b.Horses.length - 1) (by omega)
 rw [(fz0 h3).2.2.1] at this
 unfold woS
 simp only
 omega
structure LackIs (b:HairBook) (t:Nat):Prop where
 lt:t<2 ^ b.Horses.length
 sv:servedB (woS b t)=true
 le:∀ u,u<2 ^ b.Horses.length→servedB (woS b u)=true→rk b.Horses.length t≤rk b.Horses.length u
def LackInv (b:HairBook) (i:Int) (s:List Int×Bool):Prop:=(s=([],false)∧∀ u:Nat,(u:Int)<i→servedB (woS b u)=false) ∨
 ∃ t:Nat,s=(LT b.Horses.length t,true)∧t<2 ^ b.Horses.length∧servedB (woS b t)=true∧∀ u:Nat,(u:Int)<i→servedB (woS b u)=true→rk b.Horses.length t≤rk b.Horses.length u
theorem p29_8 {b:HairBook} (hok:okH b=true) {s:Nat} (hs:s<2 ^ b.Horses.length) {st:List Int×Bool} (hI:LackInv b s st):∃ st',g29_8 b (s:Int) st=some st'∧LackInv b ((s:Int)+1) st':=by
 have ok:=okH_of hok
 have h3:=ok.l3
 have okw:=okH_of (okW hok s)
 obtain ⟨mf,e80,hmf⟩:=p80 okw
 have hmk:HairBook.mk b.Hanks (keepL b.Horses (LT b.Horses.length s)) b.Dark b.Near b.Match=woS b s:=rfl
 rcases hI with ⟨rfl,hI⟩ | ⟨t,rfl,ht,hsv,hle⟩
 ·have he:g29_8 b (s:Int) ([],false)=some (bif servedB (woS b s) then (LT b.Horses.length s,true) else ([],false)):=by
   unfold g29_8
   rw [ks h3 hs]
   simp only [bsm,cond_false,hmk,e80,p84 okw hmf]
   cases servedB (woS b s)<;>rfl
  refine ⟨_,he,?_⟩
  cases hv:servedB (woS b s) with
  | true=>
   refine .inr ⟨s,rfl,hs,hv,fun u hu hsu=>?_⟩
   by_cases e:u=s
   ·subst e;exact Nat.le_refl _
   ·have:=hI u (by omega);rw [hsu] at this;cases this
  | false=>
   refine .inl ⟨rfl,fun u hu=>?_⟩
   by_cases e:u=s
   ·subst e;exact hv
   ·exact hI u (by omega)
 ·have hc:=fC h3 hs ht
  have he:g29_8 b (s:Int) (LT b.Horses.length t,true)=some (bif decide (rk b.Horses.length s<rk b.Horses.length t)&&servedB (woS b s) then (LT b.Horses.length s,true) else (LT b.Horses.length t,true)):=by
   unfold g29_8
   rw [ks h3 hs]
   simp only [bsm,cond_true]
   have key:∀ {X:Option Bool} {F:Bool→Option (List Int×Bool)} {v:Bool},X=some v→X.bind F=F v:=by
    intro X F v h;rw [h];rfl
   refine Eq.trans (key hc) ?_
   cases decide (rk b.Horses.length s<rk b.Horses.length t) with
   | false=>rfl
   | true=>
    simp only [Bool.not_true,cond_false,hmk,e80,bsm,p84 okw hmf,Bool.true_and]
    cases servedB (woS b s)<;>rfl
  refine ⟨_,he,?_⟩
  by_cases h1:rk b.Horses.length s<rk b.Horses.length t
  ·rw [decide_eq_true h1,Bool.true_and]
   cases hv:servedB (woS b s) with
   | true=>
    refine .inr ⟨s,rfl,hs,hv,fun u hu hsu=>?_⟩
    by_cases e:u=s
    ·subst e;exact Nat.le_refl _
    ·have:=hle u (by omega) hsu;omega
   | false=>
    refine .inr ⟨t,rfl,ht,hsv,fun u hu hsu=>?_⟩
    by_cases e:u=s
    ·subst e;rw [hv] at hsu;cases hsu
    ·exact hle u (by omega) hsu
  ·rw [decide_eq_false h1,Bool.false_and]
   refine .inr ⟨t,rfl,ht,hsv,fun u hu hsu=>?_⟩
   by_cases e:u=s
   ·subst e;omega
   ·exact hle u (by omega) hsu
theorem p29 {b:HairBook} (hok:okH b=true):∃ t,LackIs b t∧g29 b=some (LT b.Horses.length t,0):=by
 have ok:=okH_of hok
 have h3:=ok.l3
 have hp:=pow_pos' b.Horses.length
 have hp8:=pow_le' h3
 obtain ⟨st,e,hI⟩:=forS_inv (f:=g29_8 b) (LackInv b) (2 ^ b.Horses.length) 0 ([],false) (.inl ⟨rfl,fun u hu=>by omega⟩) (fun j s h1 h2 hs=>by
  obtain ⟨k,rfl⟩:∃ k:Nat,j=(k:Int):=⟨j.toNat,by omega⟩
  exact p29_8 hok (by omega) hs)
 rcases hI with ⟨rfl,hI⟩ | ⟨t,rfl,ht,hsv,hle⟩
 ·have:=hI (2 ^ b.Horses.length - 1) (by omega)
  rw [served_all hok] at this;cases this
 ·refine ⟨t,⟨ht,hsv,fun u hu h=>hle u (by omega) h⟩,?_⟩
  unfold g29
  rw [p17,hok,bsm]
  simp only [cond_true,ne_eq,not_true_eq_false,decide_false,cond_false]
  rw [must_t (by rw [decide_eq_true_eq];omega),bsm,fS h3,must_t (by rw [decide_eq_true_eq];omega),bsm,show (((2 ^ b.Horses.length:Nat):Int) - 0).toNat=2 ^ b.Horses.length by omega,e,bsm]
  simp only [slcL_all,bsm]
end Go.Proofs.YtonjadhpjkbhnaaDoor
namespace Go.Proofs.YtonjadhpjkbhnaaDoor
open Go Go.Abs Go.Proofs.Th
theorem cutS_horses {b x:HairBook} (h:x.Horses=b.Horses):∀ (ps:List Int) (v:Nat) (k:Int),cutS x ps v k=cutS b ps v k
 | [],v,k=>rfl
 | p::ps,v,k=>by
  rw [cutS,cutS,cutS_horses h ps]
  unfold partN
  rw [h]
theorem cutS_no {b:HairBook} (k:Int):∀ (ps:List Int) (v:Nat),¬ k∈ps→cutS b ps v k=0
 | [],v,h=>rfl
 | p::ps,v,h=>by
  rw [List.mem_cons,not_or] at h
  rw [cutS,cutS_no k ps _ h.2,decide_eq_false (fun e=>h.1 e.symm)]
  rfl
theorem dyesF_of {b:HairBook} {want mane tail m t:Int} (m1:0≤m) (m2:m≤b.Dark) (t1:0≤t) (t2:t≤b.Dark) (h:mB b want mane tail m t=true):(dyesF b want mane tail).isSome=true:=by
 unfold dyesF
 rw [Option.isSome_map]
 cases hf:firstI (fun m=>(firstI (fun t=>mB b want mane tail m t) (b.Dark+1).toNat 0).isSome) (b.Dark+1).toNat 0 with
 | some m=>rfl
 | none=>
  have h1:=firstI_none.1 hf m m1 (by omega)
  cases hg:firstI (fun t=>mB b want mane tail m t) (b.Dark+1).toNat 0 with
  | some t=>rw [hg] at h1;cases h1
  | none=>
   have h2:=firstI_none.1 hg t t1 (by omega)
   rw [h] at h2;cases h2
theorem dyeK_rel {b x:HairBook} (hor:x.Horses=b.Horses) (near:x.Near=b.Near) (mat:x.Match=b.Match) (dark:b.Dark≤x.Dark) {q:List Int} (hl:q.length=2*b.Horses.length) (hs:∀ n,n∈q→∀ j,(shOf b n j).Low≤(shOf x n j).Low∧(shOf x n j).High≤(shOf b n j).High) (h:dyeK b q=true):dyeK x q=true:=by
 unfold dyeK at h ⊢
 rw [hor]
 rw [List.all_eq_true] at h ⊢
 intro y hy
 have hd:=h y hy
 have hlt:y.2<b.Horses.length:=by
  rw [List.mem_iff_getElem?] at hy
  obtain ⟨j,hj⟩:=hy
  rw [List.getElem?_zipIdx] at hj
  cases hx:b.Horses[j]? with
  | none=>rw [hx] at hj;cases hj
  | some z=>
   rw [hx] at hj
   simp only [Option.map_some,Option.some.injEq,Nat.zero_add] at hj
   subst hj
   exact (List.getElem?_eq_some_iff.1 hx).1
 have i1:2*y.2<q.length:=by omega
 have i2:2*y.2+1<q.length:=by omega
 rw [List.getElem?_eq_getElem i1,List.getElem?_eq_getElem i2,Option.getD_some,Option.getD_some] at hd ⊢
 have s1:=hs _ (List.getElem_mem i1)
 have s2:=hs _ (List.getElem_mem i2)
 obtain ⟨d,hd⟩:=Option.isSome_iff_exists.1 hd
 obtain ⟨d1,d2,d3,d4,d5⟩:=dyesF_some hd
 refine dyesF_of d1 (by omega) d3 (by omega) ?_
 have a1:=s1 d.1
 have a2:=s2 d.2
 unfold mB nearB at d5 ⊢
 rw [near,mat]
 by_cases e:q[2*y.2]=q[2*y.2+1]
 ·rw [decide_eq_true e] at d5 ⊢
  simp only [cond_true,Bool.and_eq_true,decide_eq_true_eq] at d5 ⊢
  omega
 ·rw [decide_eq_false e] at d5 ⊢
  simp only [cond_false,Bool.and_eq_true,decide_eq_true_eq] at d5 ⊢
  omega
def hasP (b:HairBook) (by_:Span→Int):Bool:=!(plansL b by_).isEmpty
theorem mem_plansG {b:HairBook} {by_:Span→Int} {p:List Int}:p∈plansL b by_↔planB b p=true∧fitP b by_ p=true∧dyeK b p=true:=by
 unfold plansL
 rw [List.mem_filter,mem_allP]
 constructor
 ·rintro ⟨h1,h2⟩
  unfold okP at h2
  rw [dyeQ_full (planB_iff.1 h1).1,Bool.and_eq_true] at h2
  exact ⟨h1,h2⟩
 ·rintro ⟨h1,h2⟩
  refine ⟨h1,?_⟩
  unfold okP
  rw [dyeQ_full (planB_iff.1 h1).1,Bool.and_eq_true]
  exact h2
theorem has_iff {b:HairBook} {by_:Span→Int}:hasP b by_=true↔∃ q,planB b q=true∧fitP b by_ q=true∧dyeK b q=true:=by
 unfold hasP
 constructor
 ·intro h
  cases hl:plansL b by_ with
  | nil=>rw [hl] at h;cases h
  | cons p l=>exact ⟨p,mem_plansG.1 (by rw [hl];simp)⟩
 ·rintro ⟨p,hp⟩
  cases hl:plansL b by_ with
  | nil=>have:=mem_plansG.2 hp;rw [hl] at this;cases this
  | cons q l=>rfl
structure SubH (b x:HairBook):Prop where
 hor:x.Horses=b.Horses
 near:x.Near=b.Near
 mat:x.Match=b.Match
 dark:b.Dark≤x.Dark
 hank:∀ (k:Nat) h,b.Hanks[k]?=some h→∃ h',x.Hanks[k]?=some h'∧h.Shade.Low≤h'.Shade.Low∧h'.Shade.High≤h.Shade.High
theorem SubH.planH {b x:HairBook} (S:SubH b x) {q:List Int} (h:planB b q=true):planB x q=true:=by
 rw [planB_iff] at h ⊢
 refine ⟨by rw [S.hor];exact h.1,fun n hn=>?_⟩
 have hb:=h.2 n hn
 obtain ⟨h',e,_⟩:=S.hank n.toNat _ (List.getElem?_eq_getElem (show n.toNat<b.Hanks.length by omega))
 have:=(List.getElem?_eq_some_iff.1 e).1
 omega
theorem SubH.dyeH {b x:HairBook} (S:SubH b x) {q:List Int} (hp:planB b q=true) (h:dyeK b q=true):dyeK x q=true:=by
 obtain ⟨h1,h2⟩:=planB_iff.1 hp
 refine dyeK_rel S.hor S.near S.mat S.dark h1 (fun n hn j=>?_) h
 have hb:=h2 n hn
 have e0:=List.getElem?_eq_getElem (show n.toNat<b.Hanks.length by omega)
 obtain ⟨h',e,l1,l2⟩:=S.hank n.toNat _ e0
 unfold shOf
 rw [e0,e]
 simp only
 omega
theorem SubH.hasH {b x:HairBook} (S:SubH b x) {by_ by2:Span→Int} (hw:∀ (k:Nat) h h',b.Hanks[k]?=some h→x.Hanks[k]?=some h'→by_ h.Weight≤by2 h'.Weight) (hn:∀ h',h'∈x.Hanks→0≤by2 h'.Weight) (h:hasP b by_=true):hasP x by2=true:=by
 obtain ⟨q,h1,h2,h3⟩:=has_iff.1 h
 refine has_iff.2 ⟨q,S.planH h1,?_,S.dyeH h1 h3⟩
 rw [fitP_iff] at h2 ⊢
 intro k y hy
 rw [cutS_horses S.hor]
 cases hx:b.Hanks[k]? with
 | some z=>
  have:=h2 k z hx
  have:=hw k z y hx hy
  omega
 | none=>
  rw [List.getElem?_eq_none_iff] at hx
  rw [cutS_no]
  ·exact hn y (List.mem_of_getElem? hy)
  ·intro hc
   have:=(planB_iff.1 h1).2 _ hc
   omega
def wB (b:HairBook) (w s:Int):HairBook:=⟨b.Hanks++[⟨⟨w,w⟩,⟨s,s⟩⟩],b.Horses,b.Dark,b.Near,b.Match⟩
theorem p51 (b:HairBook) (h:b.Hanks.length≤100) (w s:Int):g51 b w s=some (wB b w s):=by
 unfold g51
 rw [appL_ok (by rw [List.nil_append];omega),bsm,List.nil_append]
 simp only [g40,g98,bsm]
 rw [appL_ok (by rw [List.length_append,List.length_singleton];omega)]
 rfl
theorem wB_get {b:HairBook} {w s:Int} {k:Nat} {h:HairHank} (e:(wB b w s).Hanks[k]?=some h):(b.Hanks[k]?=some h∧k<b.Hanks.length)∨(k=b.Hanks.length∧h=⟨⟨w,w⟩,⟨s,s⟩⟩):=by
 unfold wB at e
 simp only at e
 by_cases hk:k<b.Hanks.length
 ·rw [List.getElem?_append_left hk] at e
  exact .inl ⟨e,hk⟩
 ·rw [List.getElem?_append_right (by omega)] at e
  have:k - b.Hanks.length=0:=by
   have:=(List.getElem?_eq_some_iff.1 e).1
   simp at this;omega
  rw [this] at e
  refine .inr ⟨by omega,?_⟩
  simpa using e.symm
theorem wB_at (b:HairBook) (w s:Int):(wB b w s).Hanks[b.Hanks.length]?=some ⟨⟨w,w⟩,⟨s,s⟩⟩:=by
 unfold wB
 simp
theorem wB_lt {b:HairBook} (w s:Int) {k:Nat} (hk:k<b.Hanks.length):(wB b w s).Hanks[k]?=b.Hanks[k]?:=by
 unfold wB
 simp only
 rw [List.getElem?_append_left hk]
theorem wB_len (b:HairBook) (w s:Int):(wB b w s).Hanks.length=b.Hanks.length+1:=by
 unfold wB;simp
theorem wB_sub2 (b:HairBook) (w v s:Int):SubH (wB b w s) (wB b v s):=⟨rfl,rfl,rfl,Int.le_refl _,fun k h e=>by
 rcases wB_get e with ⟨e,hk⟩ | ⟨rfl,rfl⟩
 ·exact ⟨h,by rw [wB_lt v s hk];exact e,Int.le_refl _,Int.le_refl _⟩
 ·exact ⟨_,wB_at b v s,Int.le_refl _,Int.le_refl _⟩⟩
theorem okH_wB {b:HairBook} (hok:okH b=true) (hk:b.Hanks.length≤3) {w s:Int} (w1:1≤w) (w2:w≤60) (s1:0≤s) (s2:s≤20):okH (wB b w s)=true:=by
 unfold okH at hok ⊢
 simp only [Bool.and_eq_true,decide_eq_true_eq,List.all_eq_true] at hok ⊢
 obtain ⟨⟨⟨⟨⟨⟨h1,h2⟩,h3⟩,h4⟩,h5⟩,h6⟩,h7⟩:=hok
 refine ⟨⟨⟨⟨⟨⟨by rw [wB_len];omega,h2⟩,h3⟩,h4⟩,h5⟩,fun x hx=>?_⟩,h7⟩
 rcases List.mem_append.1 hx with hx | hx
 ·exact h6 x hx
 ·rw [List.mem_singleton] at hx
  subst hx
  have e1:wr (w - w)=0:=by rw [Int.sub_self];rfl
  have e2:wr (s - s)=0:=by rw [Int.sub_self];rfl
  simp only [okHank,okSpan,e1,e2,Bool.and_eq_true,decide_eq_true_eq]
  omega
theorem OkH_wB {b:HairBook} (hok:okH b=true) {w s:Int} (w1:1≤w) (w2:w≤60) (s1:0≤s) (s2:s≤20):OkH (wB b w s):=by
 have ok:=okH_of hok
 have h4:=okH_l4 hok
 refine ⟨by rw [wB_len];omega,ok.l3,ok.dark,ok.near,ok.mat,fun x hx=>?_,ok.horses⟩
 rcases List.mem_append.1 hx with hx | hx
 ·exact ok.hanks x hx
 ·rw [List.mem_singleton] at hx
  subst hx
  exact ⟨⟨w1,Int.le_refl _,w2⟩,s1,Int.le_refl _,s2⟩
theorem wB_mono {b:HairBook} (ok:OkH b) {v w s:Int} (h0:0≤v) (h:v≤w) (hs:servedB (wB b v s)=true):servedB (wB b w s)=true:=
 (wB_sub2 b v w s).hasH (by_:=fun s=>s.Low) (by2:=fun s=>s.Low) (fun k h h' e1 e2=>by
  rcases wB_get e1 with ⟨e1,k1⟩ | ⟨rfl,rfl⟩
  ·rcases wB_get e2 with ⟨e2,k2⟩ | ⟨rfl,rfl⟩
   ·rw [e1] at e2;cases e2;exact Int.le_refl _
   ·omega
  ·rcases wB_get e2 with ⟨e2,k2⟩ | ⟨_,rfl⟩
   ·omega
   ·exact h) (fun h' hh=>by
  rcases List.mem_append.1 hh with hh | hh
  ·have:=(ok.hanks h' hh).w;omega
  ·rw [List.mem_singleton] at hh
   subst hh
   simp only;omega) hs
theorem with_iff {b:HairBook} (ok:OkH b) {v s:Int} (h0:0≤v) (h60:v≤60):servedB (wB b v s)=true↔∃ q,q∈plansL (wB b 60 s) (·.Low)∧cutS (wB b 60 s) q 0 (b.Hanks.length:Int)≤v:=by
 constructor
 ·intro h
  obtain ⟨q,h1,h2,h3⟩:=has_iff.1 (show hasP (wB b v s) (fun s=>s.Low)=true from h)
  have hS:=wB_sub2 b v 60 s
  have hc:∀ k:Int,cutS (wB b 60 s) q 0 k=cutS (wB b v s) q 0 k:=fun k=>cutS_horses (b:=wB b v s) (x:=wB b 60 s) rfl q 0 k
  rw [fitP_iff] at h2
  have hK:=h2 b.Hanks.length _ (wB_at b v s)
  refine ⟨q,mem_plansG.2 ⟨hS.planH h1,fitP_iff.2 fun k x hx=>?_,hS.dyeH h1 h3⟩,by rw [hc];exact hK⟩
  rw [hc]
  rcases wB_get hx with ⟨hx,hk⟩ | ⟨rfl,rfl⟩
  ·exact h2 k x (by rw [wB_lt v s hk];exact hx)
  ·simp only at hK ⊢;omega
 ·rintro ⟨q,hq,hle⟩
  obtain ⟨h1,h2,h3⟩:=mem_plansG.1 hq
  have hS:=wB_sub2 b 60 v s
  have hc:∀ k:Int,cutS (wB b v s) q 0 k=cutS (wB b 60 s) q 0 k:=fun k=>cutS_horses (b:=wB b 60 s) (x:=wB b v s) rfl q 0 k
  rw [fitP_iff] at h2
  refine has_iff.2 ⟨q,hS.planH h1,fitP_iff.2 fun k x hx=>?_,hS.dyeH h1 h3⟩
  rw [hc]
  rcases wB_get hx with ⟨hx,hk⟩ | ⟨rfl,rfl⟩
  ·exact h2 k x (by rw [wB_lt 60 s hk];exact hx)
  ·exact hle
theorem with0_lt {b:HairBook} (ok:OkH b) {s:Int} {q:List Int} (q1:q.length=2*b.Horses.length) (q2:∀ n,n∈q→0≤n∧n<(b.Hanks.length:Int)+1) (hle:cutS b q 0 (b.Hanks.length:Int)≤0):∀ n,n∈q→0≤n∧n<b.Hanks.length:=fun n hn=>by
 have hb:=q2 n hn
 refine ⟨hb.1,?_⟩
 by_cases e:n=(b.Hanks.length:Int)
 ·have:=(cutS_pos ok (b.Hanks.length:Int) q 0 (by omega)).2 (by rw [← e];exact hn)
  omega
 ·omega
theorem with0 {b:HairBook} (ok:OkH b) {s:Int} (h:servedB (wB b 0 s)=true):servedB b=true:=by
 obtain ⟨q,hq,hle⟩:=(with_iff ok (Int.le_refl 0) (by omega)).1 h
 obtain ⟨h1,h2,h3⟩:=mem_plansG.1 hq
 obtain ⟨q1,q2⟩:=planB_iff.1 h1
 rw [cutS_horses (b:=b) (x:=wB b 60 s) rfl] at hle
 rw [wB_len] at q2
 rw [show (wB b 60 s).Horses=b.Horses from rfl] at q1
 have hlt:=with0_lt ok (s:=s) q1 (fun n hn=>by have:=q2 n hn;omega) hle
 rw [fitP_iff] at h2
 have hsh:∀ n,n∈q→∀ j,shOf (wB b 60 s) n j=shOf b n j:=fun n hn j=>by
  have hb:=hlt n hn
  unfold shOf
  rw [wB_lt 60 s (show n.toNat<b.Hanks.length by omega)]
 have hd:dyeK b q=true:=dyeK_rel (b:=wB b 60 s) (x:=b) rfl rfl rfl (Int.le_refl _) q1 (fun n hn j=>by
  rw [hsh n hn j];exact ⟨Int.le_refl _,Int.le_refl _⟩) h3
 have hf:fitP b (fun s=>s.Low) q=true:=fitP_iff.2 fun k x hx=>by
  have:=h2 k x (by rw [wB_lt 60 s (List.getElem?_eq_some_iff.1 hx).1];exact hx)
  rw [cutS_horses (b:=b) (x:=wB b 60 s) rfl] at this
  exact this
 exact has_iff.2 ⟨q,planB_iff.2 ⟨q1,hlt⟩,hf,hd⟩
def BuyIs (b:HairBook) (s:Int) (r:Int×Int):Prop:=(servedB b=true∧r=(0,0))∨(servedB b=false∧servedB (wB b 60 s)=false∧r=(0,4)) ∨
 ∃ w,1≤w∧w≤60∧servedB b=false∧r=(w,0)∧servedB (wB b w s)=true∧∀ v,0≤v→v<w→servedB (wB b v s)=false
theorem foldl_min {α:Type} (f:α→Int):∀ (l:List α) (n:Int),let m:=l.foldl (fun v q=>min v (f q)) n;m≤n∧(∀ q,q∈l→m≤f q)∧(m=n∨∃ q,q∈l∧m=f q)
 | [],n=>⟨Int.le_refl _,by simp,.inl rfl⟩
 | a::l,n=>by
  obtain ⟨h1,h2,h3⟩:=foldl_min f l (min n (f a))
  simp only [List.foldl_cons]
  refine ⟨by omega,fun q hq=>?_,?_⟩
  ·rcases List.mem_cons.1 hq with rfl | hq
   ·omega
   ·exact h2 q hq
  ·rcases h3 with h3 | ⟨q,hq,h3⟩
   ·by_cases e:n≤f a
    ·left;omega
    ·right;exact ⟨a,by simp,by omega⟩
   ·right;exact ⟨q,by simp [hq],h3⟩
theorem p31 {b:HairBook} (hok:okH b=true) {s:Int} (s1:0≤s) (s2:s≤20):∃ r,BuyIs b s r∧g31 b s=some r:=by
 have ok:=okH_of hok
 have h4:=okH_l4 hok
 obtain ⟨mf,e80,hmf⟩:=p80 ok
 have e55:g55d b s=some (.brk (b,mf,0)):=by
  unfold g55d g87
  rw [p17,hok,bsm]
  simp only [cond_true,ne_eq,not_true_eq_false,decide_false,cond_false,e80,bsm,p57,rg_iff.2 (show 0≤s∧s≤20 from ⟨s1,s2⟩),Bool.not_true]
 unfold g31
 rw [e55,bsm]
 simp only [ne_eq,not_true_eq_false,decide_false,cond_false,p84 ok hmf,bsm]
 cases hv:servedB b with
 | true=>exact ⟨(0,0),.inl ⟨hv,rfl⟩,rfl⟩
 | false=>
  have okU:=OkH_wB hok (w:=60) (by omega) (by omega) s1 s2
  obtain ⟨mU,e80U,hmU⟩:=p80 okU
  simp only [cond_false,slcL_all,bsm]
  rw [appL_ok (by rw [List.length_append,List.length_singleton];omega),bsm]
  rw [show HairBook.mk (b.Hanks++[HairHank.mk (Span.mk 60 60) (Span.mk s s)]) b.Horses b.Dark b.Near b.Match=wB b 60 s from rfl,e80U]
  simp only [g76,g88,bsm]
  rw [p111 _ okU hmU]
  have hr:=runY_fold (B:=fun q u=>g31_r22 (b.Hanks++[HairHank.mk (Span.mk 60 60) (Span.mk s s)]) (q,cutF (wB b 60 s) q) u) (X:=Unit) (fun v q=>min v (cutS (wB b 60 s) q 0 (b.Hanks.length:Int))) (plansL (wB b 60 s) (·.Low)) 61 (fun q u hq=>by
   unfold g31_r22
   simp only
   rw [List.length_append,List.length_singleton,wr_in (by omega) (by omega),show ((b.Hanks.length+1:Nat):Int) - 1=((b.Hanks.length:Nat):Int) by omega,ixN_nat (by omega)]
   rfl)
  have e:runY (fun q s_1=>rndC (g31_r22 (b.Hanks++[HairHank.mk (Span.mk 60 60) (Span.mk s s)])) (q,cutF (wB b 60 s) q) s_1) (plansL (wB b 60 s) (·.Low)) (.next 61)=runY (fun a s_1=>rndC (fun q u=>g31_r22 (b.Hanks++[HairHank.mk (Span.mk 60 60) (Span.mk s s)]) (q,cutF (wB b 60 s) q) u) a s_1) (plansL (wB b 60 s) (·.Low)) (.next 61):=by
   congr 1
  rw [e,hr]
  obtain ⟨m1,m2,m3⟩:=foldl_min (fun q=>cutS (wB b 60 s) q 0 (b.Hanks.length:Int)) (plansL (wB b 60 s) (·.Low)) 61
  generalize hn:(plansL (wB b 60 s) (·.Low)).foldl (fun v q=>min v (cutS (wB b 60 s) q 0 (b.Hanks.length:Int))) 61=n at m1 m2 m3
  simp only [Option.map_some,bsm]
  by_cases h60:60<n
  ·rw [decide_eq_true h60,cond_true]
   refine ⟨(0,4),.inr (.inl ⟨hv,?_,rfl⟩),rfl⟩
   cases hu:servedB (wB b 60 s) with
   | false=>rfl
   | true=>
    obtain ⟨q,hq,hle⟩:=(with_iff ok (by omega) (by omega)).1 hu
    have:=m2 q hq
    omega
  ·rw [decide_eq_false h60,cond_false]
   rcases m3 with m3 | ⟨q,hq,m3⟩
   ·omega
   ·have hc:=cutS_bd okU (b.Hanks.length:Int) q 0
    have hno:∀ v,0≤v→v<n→servedB (wB b v s)=false:=fun v v1 v2=>by
     cases hu:servedB (wB b v s) with
     | false=>rfl
     | true=>
      obtain ⟨q',hq',hle⟩:=(with_iff ok v1 (by omega)).1 hu
      have:=m2 q' hq'
      omega
    have hyes:servedB (wB b n s)=true:=(with_iff ok (by omega) (by omega)).2 ⟨q,hq,by omega⟩
    have hn1:1≤n:=by
     by_cases e:n=0
     ·rw [e] at hyes
      have:=with0 ok hyes
      rw [hv] at this;cases this
     ·omega
    exact ⟨(n,0),.inr (.inr ⟨n,hn1,by omega,hv,rfl,hyes,hno⟩),rfl⟩
end Go.Proofs.YtonjadhpjkbhnaaDoor
namespace Go.Proofs.YtonjadhpjkbhnaaDoor
open Go Go.Abs Go.Proofs.Th
def oneH (h:HairHank) (n:Int):HairHank:=⟨h.Weight,⟨n,n⟩⟩
def setH (b:HairBook) (hs:List HairHank):HairBook:=⟨hs,b.Horses,b.Dark,b.Near,b.Match⟩
def perh (b:HairBook):List HairHank→List HairHank→Bool
 | [],hs=>hasP (setH b hs) (·.High)
 | h::r,hs=>(firstI (fun v=>perh b r (hs++[oneH h (h.Shade.Low+v)])) (h.Shade.High - h.Shade.Low+1).toNat 0).isSome
theorem okS {b:HairBook} (ok:OkH b) {hs:List HairHank} (hl:hs.length≤5) (hh:∀ x,x∈hs→HankOk x):OkH (setH b hs):=⟨hl,ok.l3,ok.dark,ok.near,ok.mat,hh,ok.horses⟩
theorem oneOk {h:HairHank} (hk:HankOk h) {n:Int} (h1:h.Shade.Low≤n) (h2:n≤h.Shade.High):HankOk (oneH h n):=by
 have:=hk.s
 exact ⟨hk.w,by simp only [oneH];omega,by simp [oneH],by simp only [oneH];omega⟩
theorem p91 {b:HairBook} (ok:OkH b) (h4:b.Hanks.length≤4):∀ (r hs:List HairHank) (fuel:Nat),(∀ j x,r[j]?=some x→b.Hanks[hs.length+j]?=some x)→hs.length+r.length=b.Hanks.length→r.length+1≤fuel→(∀ x,x∈hs→HankOk x)→g91 fuel hs b=some (perh b r hs)
 | [],hs,fuel,hr,hl,hf,hh=>by
  obtain ⟨fuel,rfl⟩:∃ j,fuel=j+1:=⟨fuel - 1,by omega⟩
  simp only [List.length_nil,Nat.add_zero] at hl
  have okL:=okS ok (hs:=hs) (by omega) hh
  obtain ⟨mf,e80,hmf⟩:=p80 okL
  rw [g91,decide_eq_true (show (hs.length:Int)=(b.Hanks.length:Int) by omega),cond_true]
  rw [show HairBook.mk hs b.Horses b.Dark b.Near b.Match=setH b hs from rfl,e80]
  simp only [g77,g88a,bsm]
  rw [p111a _ okL hmf]
  have hr:=runY_stop (B:=fun q u=>g91_r11 (q,cutF (setH b hs) q) u) (X:=Unit) () (plansL (setH b hs) (·.High)) () (fun a s=>rfl)
  have e:runY (fun q s=>rndC g91_r11 (q,cutF (setH b hs) q) s) (plansL (setH b hs) (·.High)) (.next ())=runY (fun a s=>rndC (fun q u=>g91_r11 (q,cutF (setH b hs) q) u) a s) (plansL (setH b hs) (·.High)) (.next ()):=by
   congr 1
  rw [e,hr,perh]
  unfold hasP
  cases plansL (setH b hs) (·.High)<;>rfl
 | h::r,hs,fuel,hr,hl,hf,hh=>by
  obtain ⟨fuel,rfl⟩:∃ j,fuel=j+1:=⟨fuel - 1,by omega⟩
  simp only [List.length_cons] at hl hf
  have h0:=hr 0 h (by simp)
  rw [Nat.add_zero] at h0
  have hk:=ok.hanks h (List.mem_of_getElem? h0)
  have hs1:=hk.s
  rw [g91,decide_eq_false (show ¬ (hs.length:Int)=(b.Hanks.length:Int) by omega),cond_false,ixL_nat,h0,bsm]
  rw [wr_in (show -9223372036854775808≤h.Shade.High - h.Shade.Low by omega) (by omega),wr_in (show -9223372036854775808≤h.Shade.High - h.Shade.Low+1 by omega) (by omega),Int.sub_zero]
  have:=forC_firstU (f:=g91_16 (g91 fuel) hs b h) (fun v=>perh b r (hs++[oneH h (h.Shade.Low+v)])) (fun _=>(.brk (.brk true):Ctl Unit (Ctl Unit Bool))) (h.Shade.High - h.Shade.Low+1).toNat 0 (fun v v1 v2=>by
   unfold g91_16
   rw [slcL_all,bsm,wr_in (by omega) (by omega),appL_ok (by rw [List.length_append,List.length_singleton];omega),bsm]
   rw [show HairHank.mk h.Weight (Span.mk (h.Shade.Low+v) (h.Shade.Low+v))=oneH h (h.Shade.Low+v) from rfl]
   rw [p91 ok h4 r (hs++[oneH h (h.Shade.Low+v)]) fuel (fun j x hx=>by
    have:=hr (j+1) x (by rw [List.getElem?_cons_succ];exact hx)
    rw [List.length_append,List.length_singleton,show hs.length+1+j=hs.length+(j+1) by omega];exact this) (by rw [List.length_append,List.length_singleton];omega) (by omega) (fun x hx=>by
    rcases List.mem_append.1 hx with hx | hx
    ·exact hh x hx
    ·rw [List.mem_singleton] at hx
     rw [hx]
     exact oneOk hk (by omega) (by omega)),bsm]
   cases perh b r (hs++[oneH h (h.Shade.Low+v)])<;>rfl)
  rw [this,perh]
  cases firstI (fun v=>perh b r (hs++[oneH h (h.Shade.Low+v)])) (h.Shade.High - h.Shade.Low+1).toNat 0<;>rfl
theorem p33 (b:HairBook):g33 b=some (bif okH b then (perh b b.Hanks [],0) else (false,60)):=by
 unfold g33
 rw [p17,bsm]
 cases hok:okH b with
 | false=>rfl
 | true=>
  have h4:=okH_l4 hok
  simp only [cond_true,ne_eq,not_true_eq_false,decide_false,cond_false]
  rw [p91 (okH_of hok) h4 b.Hanks [] 1000 (fun j x hx=>by rw [List.length_nil,Nat.zero_add];exact hx) (by simp) (by omega) (by simp),bsm]
end Go.Proofs.YtonjadhpjkbhnaaDoor
set_option maxRecDepth 100000
namespace Go.Proofs.YtonjadhpjkbhnaaDoor
open Go Go.Abs Go.Proofs.Th
theorem factL:((List.range 4).all fun T=>(List.range (2 ^ T)).all fun s=>(List.range (2 ^ T)).all fun t=>!decide (rk T s≤rk T t)||decide ((LT T s).length≤(LT T t).length))=true:=by kernel_rfl
theorem fL {T s t:Nat} (hT:T≤3) (hs:s<2 ^ T) (ht:t<2 ^ T) (h:rk T s≤rk T t):(LT T s).length≤(LT T t).length:=by
 have:=all3 factL hT hs ht
 rw [decide_eq_true h] at this
 simpa using this
def Pick (r gs:List HairHank):Prop:=gs.length=r.length∧∀ (k:Nat) h,r[k]?=some h→∃ n,h.Shade.Low≤n∧n≤h.Shade.High∧gs[k]?=some (oneH h n)
theorem perh_iff (b:HairBook):∀ (r hs:List HairHank),perh b r hs=true↔∃ gs,Pick r gs∧hasP (setH b (hs++gs)) (·.High)=true
 | [],hs=>by
  rw [perh]
  constructor
  ·intro h;exact ⟨[],⟨rfl,fun k h hk=>by simp at hk⟩,by rw [List.append_nil];exact h⟩
  ·rintro ⟨gs,⟨h1,_⟩,h2⟩
   have:gs=[]:=List.length_eq_zero_iff.1 h1
   rw [this,List.append_nil] at h2
   exact h2
 | h::r,hs=>by
  rw [perh]
  constructor
  ·intro hp
   obtain ⟨v,hv⟩:=Option.isSome_iff_exists.1 hp
   obtain ⟨v1,v2,v3,_⟩:=firstI_some hv
   obtain ⟨gs,⟨g1,g2⟩,g3⟩:=(perh_iff b r _).1 v3
   refine ⟨oneH h (h.Shade.Low+v)::gs,⟨by rw [List.length_cons,List.length_cons,g1],fun k x hx=>?_⟩,by rw [List.append_assoc] at g3;exact g3⟩
   cases k with
   | zero=>
    simp only [List.getElem?_cons_zero,Option.some.injEq] at hx
    subst hx
    exact ⟨h.Shade.Low+v,by omega,by omega,rfl⟩
   | succ k=>
    rw [List.getElem?_cons_succ] at hx
    obtain ⟨n,n1,n2,n3⟩:=g2 k x hx
    exact ⟨n,n1,n2,by rw [List.getElem?_cons_succ];exact n3⟩
  ·rintro ⟨gs,⟨g1,g2⟩,g3⟩
   cases gs with
   | nil=>simp at g1
   | cons g gs=>
    obtain ⟨n,n1,n2,n3⟩:=g2 0 h (by simp)
    simp only [List.getElem?_cons_zero,Option.some.injEq] at n3
    have hrec:perh b r (hs++[oneH h n])=true:=(perh_iff b r _).2 ⟨gs,⟨by simpa using g1,fun k x hx=>by
     have:=g2 (k+1) x (by rw [List.getElem?_cons_succ];exact hx)
     rw [List.getElem?_cons_succ] at this;exact this⟩,by rw [List.append_assoc,← n3];exact g3⟩
    cases hf:firstI (fun v=>perh b r (hs++[oneH h (h.Shade.Low+v)])) (h.Shade.High - h.Shade.Low+1).toNat 0 with
    | some v=>rfl
    | none=>
     have:=firstI_none.1 hf (n - h.Shade.Low) (by omega) (by omega)
     rw [show h.Shade.Low+(n - h.Shade.Low)=n by omega,hrec] at this
     cases this
theorem pick_ok {r gs:List HairHank} (hr:∀ x,x∈r→HankOk x) (P:Pick r gs):∀ x,x∈gs→HankOk x:=fun x hx=>by
 obtain ⟨k,hk⟩:=List.getElem?_of_mem hx
 have hlt:=(List.getElem?_eq_some_iff.1 hk).1
 have hlt2:k<r.length:=by rw [← P.1];exact hlt
 obtain ⟨n,n1,n2,n3⟩:=P.2 k _ (List.getElem?_eq_getElem hlt2)
 rw [hk] at n3
 cases n3
 exact oneOk (hr _ (List.getElem_mem hlt2)) n1 n2
structure ExtH (b x:HairBook):Prop where
 hor:x.Horses=b.Horses
 near:x.Near=b.Near
 mat:x.Match=b.Match
 dark:b.Dark≤x.Dark
 hank:∀ (k:Nat) h,b.Hanks[k]?=some h→x.Hanks[k]?=some h
theorem ExtH.woE {b x:HairBook} (E:ExtH b x) (u:Nat):SubH (woS b u) (woS x u):=by
 refine ⟨?_,E.near,E.mat,E.dark,fun k h e=>⟨h,E.hank k h e,Int.le_refl _,Int.le_refl _⟩⟩
 unfold woS
 simp only
 rw [E.hor]
theorem ExtH.servedE {b x:HairBook} (E:ExtH b x) (okx:OkH x) (u:Nat) (h:servedB (woS b u)=true):servedB (woS x u)=true:=
 (E.woE u).hasH (by_:=fun s=>s.Low) (by2:=fun s=>s.Low) (fun k h h' e1 e2=>by
  have e1':b.Hanks[k]?=some h:=e1
  have e2':x.Hanks[k]?=some h':=e2
  rw [E.hank k h e1'] at e2'
  cases e2'
  exact Int.le_refl _) (fun h' hh=>by
  have:=(okx.hanks h' hh).w;omega) h
theorem ExtH.served0E {b x:HairBook} (E:ExtH b x) (ok:OkH b) (okx:OkH x) (h:servedB b=true):servedB x=true:=by
 have h3:=ok.l3
 have:=E.servedE okx 0 (by rw [wo0 h3];exact h)
 rw [wo0 okx.l3] at this
 exact this
structure EmbH (b x:HairBook) (ρ:Int→Int):Prop where
 hor:x.Horses=b.Horses
 near:x.Near=b.Near
 mat:x.Match=b.Match
 dark:b.Dark≤x.Dark
 rng:∀ (n:Int),0≤n→n<b.Hanks.length→0≤ρ n∧ρ n<x.Hanks.length
 inj:∀ (n m:Int),0≤n→n<b.Hanks.length→0≤m→m<b.Hanks.length→ρ n=ρ m→n=m
 hank:∀ (n:Int) h,0≤n→b.Hanks[n.toNat]?=some h→x.Hanks[(ρ n).toNat]?=some h
theorem cutS_ren {b x:HairBook} {ρ:Int→Int} (E:EmbH b x ρ) {k:Int} (k1:0≤k) (k2:k<b.Hanks.length):∀ (q:List Int) (v:Nat),(∀ n,n∈q→0≤n∧n<b.Hanks.length)→cutS x (q.map ρ) v (ρ k)=cutS b q v k
 | [],v,h=>rfl
 | p::q,v,h=>by
  have hp:=h p (by simp)
  rw [List.map_cons,cutS,cutS,cutS_ren E k1 k2 q (v+1) (fun n hn=>h n (by simp [hn]))]
  have e:decide (ρ p=ρ k)=decide (p=k):=by
   by_cases e:p=k
   ·rw [e,decide_eq_true rfl,decide_eq_true rfl]
   ·rw [decide_eq_false e,decide_eq_false (fun hc=>e (E.inj p k hp.1 hp.2 k1 k2 hc))]
  unfold partN
  rw [e,E.hor]
theorem EmbH.hasE {b x:HairBook} {ρ:Int→Int} (E:EmbH b x ρ) (okx:∀ h,h∈x.Hanks→0≤h.Weight.Low) (h:servedB b=true):servedB x=true:=by
 obtain ⟨q,h1,h2,h3⟩:=has_iff.1 (show hasP b (fun s=>s.Low)=true from h)
 obtain ⟨q1,q2⟩:=planB_iff.1 h1
 have hp:planB x (q.map ρ)=true:=planB_iff.2 ⟨by rw [List.length_map,E.hor];exact q1,fun n hn=>by
  rw [List.mem_map] at hn
  obtain ⟨m,hm,rfl⟩:=hn
  have:=q2 m hm
  exact E.rng m this.1 this.2⟩
 rw [fitP_iff] at h2
 refine has_iff.2 ⟨q.map ρ,hp,fitP_iff.2 fun k y hy=>?_,?_⟩
 ·by_cases hk:∃ n,n∈q∧ρ n=(k:Int)
  ·obtain ⟨n,hn,e⟩:=hk
   have hb:=q2 n hn
   rw [← e,cutS_ren E hb.1 hb.2 q 0 q2]
   have e0:=List.getElem?_eq_getElem (show n.toNat<b.Hanks.length by omega)
   have h':=E.hank n _ hb.1 e0
   rw [e,Int.toNat_natCast,hy] at h'
   cases h'
   have:=h2 n.toNat _ e0
   rw [show ((n.toNat:Nat):Int)=n by omega] at this
   exact this
  ·rw [cutS_no]
   ·exact okx y (List.mem_of_getElem? hy)
   ·intro hc
    rw [List.mem_map] at hc
    exact hk hc
 ·unfold dyeK at h3 ⊢
  rw [E.hor]
  rw [List.all_eq_true] at h3 ⊢
  intro y hy
  have hd:=h3 y hy
  have hlt:y.2<b.Horses.length:=by
   rw [List.mem_iff_getElem?] at hy
   obtain ⟨j,hj⟩:=hy
   rw [List.getElem?_zipIdx] at hj
   cases hx:b.Horses[j]? with
   | none=>rw [hx] at hj;cases hj
   | some z=>
    rw [hx] at hj
    simp only [Option.map_some,Option.some.injEq,Nat.zero_add] at hj
    subst hj
    exact (List.getElem?_eq_some_iff.1 hx).1
  have i1:2*y.2<q.length:=by omega
  have i2:2*y.2+1<q.length:=by omega
  rw [List.getElem?_map,List.getElem?_map]
  rw [List.getElem?_eq_getElem i1,List.getElem?_eq_getElem i2] at hd ⊢
  simp only [Option.map_some,Option.getD_some] at hd ⊢
  have r1:=q2 _ (List.getElem_mem i1)
  have r2:=q2 _ (List.getElem_mem i2)
  generalize q[2*y.2]=m at hd r1 ⊢
  generalize q[2*y.2+1]=t at hd r2 ⊢
  have hsh:∀ n j,0≤n→n<(b.Hanks.length:Int)→shOf x (ρ n) j=shOf b n j:=fun n j n1 n2=>by
   have e0:=List.getElem?_eq_getElem (show n.toNat<b.Hanks.length by omega)
   unfold shOf
   rw [e0,E.hank n _ n1 e0]
  obtain ⟨d,hd⟩:=Option.isSome_iff_exists.1 hd
  obtain ⟨d1,d2,d3,d4,d5⟩:=dyesF_some hd
  have hdk:=E.dark
  refine dyesF_of d1 (by omega) d3 (by omega) ?_
  unfold mB nearB at d5 ⊢
  have e:decide (ρ m=ρ t)=decide (m=t):=by
   by_cases e:m=t
   ·rw [e,decide_eq_true rfl,decide_eq_true rfl]
   ·rw [decide_eq_false e,decide_eq_false (fun hc=>e (E.inj m t r1.1 r1.2 r2.1 r2.2 hc))]
  rw [e,hsh m _ r1.1 r1.2,hsh t _ r2.1 r2.2,E.near,E.mat]
  exact d5
theorem ExtH.buyE {b x:HairBook} (E:ExtH b x) (ok:OkH b) (okx:OkH x) {w s:Int} (w0:0≤w) (h:servedB (wB b w s)=true):servedB (wB x w s)=true:=by
 have hle:b.Hanks.length≤x.Hanks.length:=by
  by_cases h0:b.Hanks.length=0
  ·omega
  ·have:=E.hank (b.Hanks.length - 1) _ (List.getElem?_eq_getElem (show b.Hanks.length - 1<b.Hanks.length by omega))
   have:=(List.getElem?_eq_some_iff.1 this).1
   omega
 refine EmbH.hasE (b:=wB b w s) (x:=wB x w s) (ρ:=fun n=>if n<b.Hanks.length then n else x.Hanks.length) ⟨E.hor,E.near,E.mat,E.dark,fun n n1 n2=>?_,fun n m n1 n2 m1 m2 e=>?_,fun n h' n1 e=>?_⟩ (fun h' hh=>?_) h
 ·rw [wB_len]
  split<;>omega
 ·rw [wB_len] at n2 m2
  split at e<;>split at e<;>omega
 ·rcases wB_get e with ⟨e,hk⟩ | ⟨hk,rfl⟩
  ·skip
   rw [if_pos (by omega),wB_lt w s (by omega)]
   exact E.hank _ _ e
  ·skip
   rw [if_neg (by omega),Int.toNat_natCast]
   exact wB_at x w s
 ·rcases List.mem_append.1 hh with hh | hh
  ·have:=(okx.hanks h' hh).w;omega
  ·rw [List.mem_singleton] at hh
   subst hh
   exact w0
theorem more_core {b x:HairBook} (hok:okH b=true) (hx:okH x=true) (E:ExtH b x) {s:Int} (s1:0≤s) (s2:s≤20) (hper:perh b b.Hanks []=true→perh x x.Hanks []=true) :
  ∃ l m p q,g29 b=some (l,0)∧g29 x=some (m,0)∧g31 b s=some p∧g31 x s=some q∧m.length≤l.length∧(perh b b.Hanks []=false→0<l.length)∧(p.2=0∨p.2=4)∧((q.2=0∧q.1≤p.1)∨p.2=4):=by
 have ok:=okH_of hok
 have okx:=okH_of hx
 have h3:=ok.l3
 have h3x:=okx.l3
 have hp:=pow_pos' b.Horses.length
 obtain ⟨f1,f2,f3,f4⟩:=fz0 h3
 obtain ⟨t,ht,e1⟩:=p29 hok
 obtain ⟨u,hu,e2⟩:=p29 hx
 obtain ⟨p,hbp,e3⟩:=p31 hok s1 s2
 obtain ⟨q,hbq,e4⟩:=p31 hx s1 s2
 have hlen:x.Horses.length=b.Horses.length:=by rw [E.hor]
 refine ⟨_,_,p,q,e1,e2,e3,e4,?_,fun hn=>?_,?_,?_⟩
 ·have hlt:=hu.lt
  have hle:=hu.le t (by rw [hlen];exact ht.lt) (E.servedE okx t ht.sv)
  rw [hlen] at hlt hle ⊢
  exact fL h3 hlt ht.lt hle
 ·by_cases h0:(LT b.Horses.length t).length=0
  ·have:=f4 t ht.lt h0
   have hs:=ht.sv
   rw [this,wo0 h3] at hs
   have:perh b b.Hanks []=true:=(perh_iff b _ _).2 ⟨b.Hanks.map (fun h=>oneH h h.Shade.Low),⟨List.length_map _,fun k h e=>⟨h.Shade.Low,Int.le_refl _,(ok.hanks h (List.mem_of_getElem? e)).s.2.1,by rw [List.getElem?_map,e];rfl⟩⟩,by
    rw [List.nil_append]
    refine SubH.hasH (b:=b) (x:=setH b (b.Hanks.map (fun h=>oneH h h.Shade.Low))) ⟨rfl,rfl,rfl,Int.le_refl _,fun k h e=>⟨oneH h h.Shade.Low,?_,Int.le_refl _,?_⟩⟩ (by_:=fun s=>s.Low) (by2:=fun s=>s.High) (fun k h h' e1 e2=>?_) (fun h' hh=>?_) hs
    ·rw [show (setH b (b.Hanks.map (fun h=>oneH h h.Shade.Low))).Hanks=b.Hanks.map (fun h=>oneH h h.Shade.Low) from rfl,List.getElem?_map,e];rfl
    ·exact (ok.hanks h (List.mem_of_getElem? e)).s.2.1
    ·rw [show (setH b (b.Hanks.map (fun h=>oneH h h.Shade.Low))).Hanks=b.Hanks.map (fun h=>oneH h h.Shade.Low) from rfl,List.getElem?_map,e1] at e2
     cases e2
     exact (ok.hanks h (List.mem_of_getElem? e1)).w.2.1
    ·rw [show (setH b (b.Hanks.map (fun h=>oneH h h.Shade.Low))).Hanks=b.Hanks.map (fun h=>oneH h h.Shade.Low) from rfl,List.mem_map] at hh
     obtain ⟨y,hy,rfl⟩:=hh
     have:=(ok.hanks y hy).w
     simp only [oneH];omega⟩
   rw [hn] at this;cases this
  ·omega
 ·rcases hbp with ⟨_,rfl⟩ | ⟨_,_,rfl⟩ | ⟨w,_,_,_,rfl,_⟩
  ·exact .inl rfl
  ·exact .inr rfl
  ·exact .inl rfl
 ·rcases hbp with ⟨h1,rfl⟩ | ⟨_,_,rfl⟩ | ⟨w,w1,w2,h1,rfl,h4,h5⟩
  ·have hv:=E.served0E ok okx h1
   rcases hbq with ⟨_,rfl⟩ | ⟨k1,_⟩ | ⟨v,_,_,k1,_⟩
   ·exact .inl ⟨rfl,Int.le_refl _⟩
   ·rw [hv] at k1;cases k1
   ·rw [hv] at k1;cases k1
  ·exact .inr rfl
  ·have hv:=E.buyE ok okx (by omega) h4
   rcases hbq with ⟨_,rfl⟩ | ⟨k1,k2,_⟩ | ⟨v,v1,v2,k1,rfl,k3,k4⟩
   ·exact .inl ⟨rfl,by simp only;omega⟩
   ·have:=wB_mono okx (by omega) w2 hv
    rw [k2] at this;cases this
   ·refine .inl ⟨rfl,?_⟩
    simp only
    by_cases l:v≤w
    ·exact l
    ·have:=k4 w (by omega) (by omega)
     rw [hv] at this;cases this
theorem per_with {b:HairBook} (ok:OkH b) {w s:Int} (w1:0≤w) (h:perh b b.Hanks []=true):perh (wB b w s) (wB b w s).Hanks []=true:=by
 obtain ⟨gs,P,hp⟩:=(perh_iff b _ _).1 h
 rw [List.nil_append] at hp
 have hgl:=P.1
 refine (perh_iff _ _ _).2 ⟨gs++[oneH ⟨⟨w,w⟩,⟨s,s⟩⟩ s],⟨by rw [wB_len,List.length_append,hgl];rfl,fun k x hx=>?_⟩,?_⟩
 ·rcases wB_get hx with ⟨e,hk⟩ | ⟨rfl,rfl⟩
  ·obtain ⟨n,n1,n2,n3⟩:=P.2 k x e
   exact ⟨n,n1,n2,by rw [List.getElem?_append_left (by omega)];exact n3⟩
  ·exact ⟨s,Int.le_refl _,Int.le_refl _,by rw [← hgl];simp⟩
 ·rw [List.nil_append]
  refine SubH.hasH (b:=setH b gs) (x:=setH (wB b w s) (gs++[oneH ⟨⟨w,w⟩,⟨s,s⟩⟩ s])) ⟨rfl,rfl,rfl,Int.le_refl _,fun k h e=>⟨h,?_,Int.le_refl _,Int.le_refl _⟩⟩ (by_:=fun s=>s.High) (by2:=fun s=>s.High) (fun k h h' e1 e2=>?_) (fun h' hh=>?_) hp
  ·have e':gs[k]?=some h:=e
   show (gs++_)[k]?=_
   rw [List.getElem?_append_left (List.getElem?_eq_some_iff.1 e').1]
   exact e'
  ·have e1':gs[k]?=some h:=e1
   have e2':(gs++[oneH ⟨⟨w,w⟩,⟨s,s⟩⟩ s])[k]?=some h':=e2
   rw [List.getElem?_append_left (List.getElem?_eq_some_iff.1 e1').1,e1'] at e2'
   cases e2'
   exact Int.le_refl _
  ·have hh':h'∈gs++[oneH ⟨⟨w,w⟩,⟨s,s⟩⟩ s]:=hh
   rcases List.mem_append.1 hh' with hh' | hh'
   ·have:=(pick_ok ok.hanks P h' hh').w;omega
   ·rw [List.mem_singleton] at hh'
    subst hh'
    exact w1
theorem per_dark {b:HairBook} (ok:OkH b) {d:Int} (hd:b.Dark≤d) (h:perh b b.Hanks []=true):perh ⟨b.Hanks,b.Horses,d,b.Near,b.Match⟩ b.Hanks []=true:=by
 obtain ⟨gs,P,hp⟩:=(perh_iff b _ _).1 h
 refine (perh_iff _ _ _).2 ⟨gs,P,?_⟩
 rw [List.nil_append] at hp ⊢
 refine SubH.hasH (b:=setH b gs) (x:=setH ⟨b.Hanks,b.Horses,d,b.Near,b.Match⟩ gs) ⟨rfl,rfl,rfl,hd,fun k h e=>⟨h,e,Int.le_refl _,Int.le_refl _⟩⟩ (by_:=fun s=>s.High) (by2:=fun s=>s.High) (fun k h h' e1 e2=>?_) (fun h' hh=>?_) hp
 ·have e1':gs[k]?=some h:=e1
  have e2':gs[k]?=some h':=e2
  rw [e1'] at e2'
  cases e2'
  exact Int.le_refl _
 ·have:=(pick_ok ok.hanks P h' hh).w;omega
theorem plain11 (t:HairBook) (o:Nat→Int):g11 t o=some true:=by
 unfold g11
 rw [p35,bsm]
 cases hok:okH t with
 | false=>simp only [Bool.not_false,cond_true,matched_ok,bsm]
 | true=>
  have ok:=okH_of hok
  have h4:=okH_l4 hok
  have hd:=ok.dark
  simp only [Bool.not_true,cond_false,bsm]
  by_cases e0:(t.Hanks.length:Int)=4
  ·simp only [e0,decide_true,cond_true,matched_ok,bsm]
  ·rw [decide_eq_false e0]
   obtain ⟨w,ew,w1,w2⟩:=p39 (o 0) (many:=60) (by omega) (by omega)
   obtain ⟨s,es,s1,s2⟩:=p39 (o 1) (many:=21) (by omega) (by omega)
   obtain ⟨s',es',s1',s2'⟩:=p39 (o 2) (many:=21) (by omega) (by omega)
   simp only [cond_false,ew,es,es',bsm]
   rw [wr_in (show -9223372036854775808≤1+w by omega) (by omega),p51 t (by omega),bsm,wr_in (show -9223372036854775808≤t.Dark+1 by omega) (by omega)]
   have hfin:∀ x:HairBook,okH x=true→ExtH t x→(perh t t.Hanks []=true→perh x x.Hanks []=true)→∃ l m p q,g29 t=some (l,0)∧g29 x=some (m,0)∧g31 t s'=some p∧g31 x s'=some q∧m.length≤l.length∧(perh t t.Hanks []=false→0<l.length)∧(p.2=0∨p.2=4)∧((q.2=0∧q.1≤p.1)∨p.2=4)∧g33 t=some (perh t t.Hanks [],0)∧g33 x=some (perh x x.Hanks [],0)∧(perh t t.Hanks []=true→perh x x.Hanks []=true):=fun x hx E hper=>by
    obtain ⟨l,m,p,q,h1,h2,h3,h4,h5,h6,h7,h8⟩:=more_core hok hx E s1' (by omega) hper
    exact ⟨l,m,p,q,h1,h2,h3,h4,h5,h6,h7,h8,by rw [p33,hok];rfl,by rw [p33,hx];rfl,hper⟩
   have hend:∀ x:HairBook,okH x=true→ExtH t x→(perh t t.Hanks []=true→perh x x.Hanks []=true)→((g29 t).bind fun (r0_2_3,r1_1)=>(g29 x).bind fun (r0_2_4,r1_1_1)=>(g33 t).bind fun (r0_1,r1_1_2)=>(g33 x).bind fun (r0_1_1,r1_1_3)=>(g31 t s').bind fun (r0_5,r1_6)=>(g31 x s').bind fun (r0_5_1,r1_6_1)=>(bif ((((decide (r1_1=0))&&(decide (r1_1_1=0)))&&(decide (r1_1_2=0)))&&(decide (r1_1_3=0))) then (some (decide ((r0_2_4.length:Int)≤(r0_2_3.length:Int)))) else (some false)).bind fun v1=>(bif (v1&&(r0_1_1||(!r0_1))) then (bif r0_1 then (some true) else (some (decide (0<(r0_2_3.length:Int))))) else (some false)).bind fun v2=>(bif ((v2&&((decide (r1_6=0))||(decide (r1_6=4))))&&(((decide (r1_6_1=0))&&(decide (r0_5_1≤r0_5)))||(decide (r1_6=4)))) then ((g25).bind fun r0_12_1=>some r0_12_1) else (some false)).bind fun v3=>some v3)=some true:=fun x hx E hper=>by
    obtain ⟨l,m,p,q,h1,h2,h3,h4,h5,h6,h7,h8,h9,h10,h11⟩:=hfin x hx E hper
    rw [h1,h2,h3,h4,h9,h10]
    simp only [bsm,decide_true,Bool.and_self,cond_true]
    rw [decide_eq_true (show (m.length:Int)≤(l.length:Int) by omega)]
    have a1:(decide (p.2=0)||decide (p.2=4))=true:=by
     rw [Bool.or_eq_true,decide_eq_true_eq,decide_eq_true_eq];exact h7
    have a2:((decide (q.2=0)&&decide (q.1≤p.1))||decide (p.2=4))=true:=by
     rw [Bool.or_eq_true,Bool.and_eq_true,decide_eq_true_eq,decide_eq_true_eq,decide_eq_true_eq];exact h8
    cases hv:perh t t.Hanks [] with
    | true=>
     rw [h11 hv]
     simp only [Bool.or_self,Bool.not_true,Bool.or_false,Bool.and_self,cond_true,bsm,a1,a2,Bool.true_and,matched_ok]
    | false=>
     have:=h6 hv
     rw [decide_eq_true (show 0<(l.length:Int) by omega)]
     simp only [Bool.not_false,Bool.or_true,Bool.and_self,cond_true,cond_false,bsm,a1,a2,Bool.true_and,matched_ok]
   have key:∀ {X:Option (List HairHank×List HairHorse×Int×Int×Int)} {F:List HairHank×List HairHorse×Int×Int×Int→Option Bool} {v},X=some v→F v=some true→X.bind F=some true:=by
    intro X F v h1 h2;rw [h1];exact h2
   cases hpar:decide ((o 2).tmod 2=0) with
   | true=>
    refine key (v:=(t.Hanks,t.Horses,min 4 (t.Dark+1),t.Near,t.Match)) rfl ?_
    refine hend ⟨t.Hanks,t.Horses,min 4 (t.Dark+1),t.Near,t.Match⟩ ?_ ⟨rfl,rfl,rfl,by simp only;omega,fun k h e=>e⟩ (fun h=>per_dark ok (by omega) h)
    unfold okH at hok ⊢
    simp only [Bool.and_eq_true,decide_eq_true_eq,rg_iff] at hok ⊢
    obtain ⟨⟨⟨⟨⟨⟨q1,q2⟩,q3⟩,q4⟩,q5⟩,q6⟩,q7⟩:=hok
    exact ⟨⟨⟨⟨⟨⟨q1,q2⟩,by omega⟩,q4⟩,q5⟩,q6⟩,q7⟩
   | false=>
    refine key (v:=((wB t (1+w) s).Hanks,t.Horses,t.Dark,t.Near,t.Match)) rfl ?_
    exact hend (wB t (1+w) s) (okH_wB hok (by omega) (by omega) (by omega) s1 (by omega)) ⟨rfl,rfl,rfl,Int.le_refl _,fun k h e=>by rw [wB_lt _ _ (List.getElem?_eq_some_iff.1 e).1];exact e⟩ (fun h=>per_with ok (by omega) h)
end Go.Proofs.YtonjadhpjkbhnaaDoor
