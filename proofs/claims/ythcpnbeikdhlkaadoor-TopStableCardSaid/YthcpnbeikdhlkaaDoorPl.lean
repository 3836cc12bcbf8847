/- Plain laws. Conditions: none. -/
import Derived.Test.YthcpnbeikdhlkaaDoorAr
set_option linter.unusedVariables false
set_option linter.unusedSimpArgs false
namespace Go.Proofs.YthcpnbeikdhlkaaDoor
open Go.Abs Go.Proofs.Tt
theorem cs {α:Type} (c:Bool) (a b:α):(bif c then some a else some b)=some (bif c then a else b):=by cases c<;>rfl
theorem bsm {α β:Type} (a:α) (f:α→Option β):(some a).bind f=f a:=rfl
theorem eachS_all {α:Type} {f:Int→α→Bool→Option Bool} {p:α→Bool} (h:∀ i x s,f i x s=some (s&&p x)):∀ (xs:List α) (i:Int) (s:Bool),eachS f xs i s=some (s&&xs.all p)
 | [],i,s=>by simp [eachS]
 | x::xs,i,s=>by rw [eachS,h,bsm,eachS_all h xs];simp [Bool.and_assoc]
def rg (n a b:Int):Bool:=decide (a≤n)&&decide (n≤b)
theorem while_all {α:Type} {f:Bool×Int→Option (Ctl (Bool×Int) Bool)} {p:α→Bool} {xs:List α} (hl:xs.length<900)
  (h0:∀ i,f (false,i)=some (.brk false)) (h1:f (true,(xs.length:Int))=some (.brk true))
  (h:∀ (i:Nat) x,xs[i]?=some x→f (true,(i:Int))=some (.next (p x,((i+1:Nat):Int)))) :
  ∀ (n i:Nat),i+n=xs.length→∀ k,n+2≤k→whileC f k (true,(i:Int))=some ((xs.drop i).all p)
 | 0,i,hi,k,hk=>by
  obtain ⟨k,rfl⟩:∃ k',k=k'+1:=⟨k - 1,by omega⟩
  have:i=xs.length:=by omega
  subst this
  rw [whileC,h1];simp
 | n+1,i,hi,k,hk=>by
  obtain ⟨k,rfl⟩:∃ k',k=k'+1:=⟨k - 1,by omega⟩
  have hlt:i<xs.length:=by omega
  rw [whileC,h i _ (List.getElem?_eq_getElem hlt),bsm,List.drop_eq_getElem_cons hlt,List.all_cons]
  cases hp:p xs[i] with
  | false=>
   obtain ⟨k,rfl⟩:∃ k',k=k'+1:=⟨k - 1,by omega⟩
   simp only;rw [whileC,h0];rfl
  | true=>simp only;rw [while_all hl h0 h1 h n (i+1) (by omega) k (by omega)];simp
theorem wr_nat {i:Nat} (h:i<1000):wr ((i:Int)+1)=((i+1:Nat):Int):=by rw [wr_in (by omega) (by omega)];simp
theorem ixL_nat {α:Type} (xs:List α) (i:Nat):ixL xs (i:Int)=xs[i]?:=by
 unfold ixL
 have:decide (0≤(i:Int))=true:=by simp
 rw [this];simp
theorem rg_iff {n a c:Int}:rg n a c=true↔a≤n∧n≤c:=by simp [rg]
theorem must_t {x:Bool} (h:x=true):must x=some ():=by subst h;rfl
def firstI (p:Int→Bool):Nat→Int→Option Int
 | 0,_=>none
 | n+1,i=>bif p i then some i else firstI p n (i+1)
theorem firstI_none {p:Int→Bool}:∀ {n:Nat} {i:Int},firstI p n i=none↔∀ j,i≤j→j<i+n→p j=false
 | 0,i=>⟨fun _ j h1 h2=>by omega,fun _=>rfl⟩
 | n+1,i=>by
  rw [firstI]
  cases h0:p i with
  | true=>exact ⟨fun h=>by (cases h),fun h=>by have:=h i (by omega) (by omega);rw [h0] at this;cases this⟩
  | false=>
   rw [cond_false,firstI_none]
   constructor
   ·intro h j h1 h2
    by_cases e:j=i
    ·rw [e];exact h0
    ·exact h j (by omega) (by omega)
   ·intro h j h1 h2;exact h j (by omega) (by omega)
theorem firstI_some {p:Int→Bool}:∀ {n:Nat} {i j:Int},firstI p n i=some j→i≤j∧j<i+n∧p j=true∧∀ k,i≤k→k<j→p k=false
 | 0,i,j,h=>by cases h
 | n+1,i,j,h=>by
  rw [firstI] at h
  cases h0:p i with
  | true=>rw [h0] at h;cases h;exact ⟨by omega,by omega,h0,fun k h1 h2=>by omega⟩
  | false=>
   rw [h0,cond_false] at h
   obtain ⟨h1,h2,h3,h4⟩:=firstI_some h
   refine ⟨by omega,by omega,h3,fun k hk hk'=>?_⟩
   by_cases e:k=i
   ·rw [e];exact h0
   ·exact h4 k (by omega) hk'
theorem forC_first {S R:Type} {f:Int→S→Option (Ctl S R)} (I:S→Prop) (p:Int→Bool) (r:Int→R):∀ (n:Nat) (i:Int) (s:S),I s →
  (∀ j s,i≤j→j<i+n→I s→∃ s',I s'∧f j s=some (bif p j then .brk (r j) else .next s')) →
  ∃ s',I s'∧forC f n i s=some (match firstI p n i with | some j=>.brk (r j) | none=>.next s')
 | 0,i,s,hs,h=>⟨s,hs,rfl⟩
 | n+1,i,s,hs,h=>by
  obtain ⟨s1,h1,e1⟩:=h i s (by omega) (by omega) hs
  rw [forC,e1,bsm,firstI]
  cases p i with
  | true=>exact ⟨s1,h1,rfl⟩
  | false=>exact forC_first I p r n (i+1) s1 h1 (fun j s k1 k2=>h j s (by omega) (by omega))
theorem forC_firstU {R:Type} {f:Int→Unit→Option (Ctl Unit R)} (p:Int→Bool) (r:Int→R) (n:Nat) (i:Int) (h:∀ j,i≤j→j<i+n→f j ()=some (bif p j then .brk (r j) else .next ())) :
  forC f n i ()=some (match firstI p n i with | some j=>.brk (r j) | none=>.next ()):=by
 obtain ⟨s,_,e⟩:=forC_first (fun _=>True) p r n i () trivial (fun j s h1 h2 _=>⟨(),trivial,h j h1 h2⟩)
 exact e
theorem roomB_ok {n b:Nat} (h:n*b≤140737488355328):roomB n b=true:=Nat.ble_eq_true_of_le h
theorem appL_ok {α:Type} {sz:Nat} {l m:List α} (h:(l++m).length*sz≤140737488355328):appL sz l m=some (l++m):=by
 unfold appL
 rw [roomB_ok h];rfl
theorem slcL_all {α:Type} (l:List α):slcL l 0 (l.length:Int)=some l:=by
 unfold slcL
 have:(decide ((0:Int)≤0)&&(decide ((0:Int)≤(l.length:Int))&&decide ((l.length:Int)≤(l.length:Int))))=true:=by simp
 rw [this];simp
theorem forS_inv {S:Type} {f:Int→S→Option S} (I:Int→S→Prop):∀ (n:Nat) (i:Int) (s:S),I i s→(∀ j s,i≤j→j<i+n→I j s→∃ s',f j s=some s'∧I (j+1) s')→∃ s',forS f n i s=some s'∧I (i+n) s'
 | 0,i,s,hs,h=>⟨s,rfl,by simpa using hs⟩
 | n+1,i,s,hs,h=>by
  obtain ⟨s1,e1,h1⟩:=h i s (by omega) (by omega) hs
  obtain ⟨s2,e2,h2⟩:=forS_inv I n (i+1) s1 h1 (fun j s k1 k2=>h j s (by omega) (by omega))
  refine ⟨s2,by rw [forS,e1,bsm,e2],?_⟩
  rw [show i+((n+1:Nat):Int)=i+1+(n:Int) by omega]
  exact h2
theorem ixN_nat {n i:Nat} (h:i<n):ixN n (i:Int)=some i:=by
 unfold ixN
 have:(decide (0≤(i:Int))&&Nat.blt (i:Int).toNat n)=true:=by simp [h,Nat.blt_eq]
 rw [this];simp
theorem mfd_append {K W:Type} (q:K→K→Bool) (k k':K) (w:W):∀ (m:List (K×W)) (i:Nat),(mfd q k (m++[(k',w)]) i).map (·.2)=match (mfd q k m i).map (·.2) with
  | some v=>some v
  | none=>bif q k k' then some w else none
 | [],i=>by
  simp only [List.nil_append,mfd]
  cases q k k'<;>rfl
 | p::m,i=>by
  simp only [List.cons_append,mfd]
  cases q k p.1 with
  | true=>rfl
  | false=>simp only [cond_false];exact mfd_append q k k' w m (i+1)
theorem mget_append {K W:Type} (q:K→K→Bool) (m:List (K×W)) (k k':K) (w:W):mget q (m++[(k',w)]) k=match mget q m k with
  | some v=>some v
  | none=>bif q k k' then some w else none:=mfd_append q k k' w m 0
end Go.Proofs.YthcpnbeikdhlkaaDoor
namespace Go.Proofs.YthcpnbeikdhlkaaDoor
open Go.Abs Go.Proofs.Tt
def okSpan (s:Span) (a c w:Int):Bool:=decide (a≤s.Low)&&decide (s.Low≤s.High)&&decide (s.High≤c)&&decide (wr (s.High - s.Low)≤w)
def okHank (x:HairHank):Bool:=okSpan x.Weight 1 60 4&&okSpan x.Shade 0 20 2
def okHorse (x:HairHorse):Bool:=rg x.Mane 1 30&&rg x.Tail 1 30&&rg x.Shade 0 25
def okH (b:HairBook):Bool:=decide ((b.Hanks.length:Int)≤4)&&decide ((b.Horses.length:Int)≤3)&&rg b.Dark 0 4&&rg b.Near 0 3&&rg b.Match 0 3&&b.Hanks.all okHank&&b.Horses.all okHorse
theorem p57 (n a c:Int):g31 n a c=some (rg n a c):=rfl
theorem p63 (s:Span) (a c w:Int):g55 s a c w=some (okSpan s a c w):=rfl
theorem p17_15 (i:Int) (x:HairHank) (s:Bool):g25_15 i x s=some (s&&okHank x):=by
 simp only [g25_15,p63,bsm,cs,okHank,Bool.cond_false_right,Bool.and_assoc]
theorem p17_31 (i:Int) (x:HairHorse) (s:Bool):g25_31 i x s=some (s&&okHorse x):=by
 simp only [g25_31,p57,bsm,cs,okHorse,Bool.cond_false_right,Bool.and_assoc]
theorem p17 (b:HairBook):g25 b=some (bif okH b then 0 else 60):=by
 unfold g25
 simp only [p57,bsm,cs,Bool.cond_false_right,eachS_all p17_15,eachS_all p17_31]
 have:∀ x:Bool,(bif !x then (60:Int) else 0)=bif x then 0 else 60:=by intro x;cases x<;>rfl
 rw [this]
 simp only [okH,Bool.and_assoc]
structure HankOk (x:HairHank):Prop where
 w:1≤x.Weight.Low∧x.Weight.Low≤x.Weight.High∧x.Weight.High≤60
 s:0≤x.Shade.Low∧x.Shade.Low≤x.Shade.High∧x.Shade.High≤20
structure OkH (b:HairBook):Prop where
 l4:b.Hanks.length≤5
 l3:b.Horses.length≤3
 dark:0≤b.Dark∧b.Dark≤4
 near:0≤b.Near∧b.Near≤3
 mat:0≤b.Match∧b.Match≤3
 hanks:∀ x,x∈b.Hanks→HankOk x
 horses:∀ x,x∈b.Horses→(1≤x.Mane∧x.Mane≤30)∧(1≤x.Tail∧x.Tail≤30)∧0≤x.Shade∧x.Shade≤25
theorem okH_of {b:HairBook} (h:okH b=true):OkH b:=by
 simp only [okH,Bool.and_eq_true,rg_iff,decide_eq_true_eq,List.all_eq_true] at h
 obtain ⟨⟨⟨⟨⟨⟨h1,h2⟩,h3⟩,h4⟩,h5⟩,h6⟩,h7⟩:=h
 refine ⟨by omega,by omega,h3,h4,h5,fun x hx=>?_,fun x hx=>?_⟩
 ·have:=h6 x hx
  simp only [okHank,okSpan,Bool.and_eq_true,decide_eq_true_eq] at this
  exact ⟨by omega,by omega⟩
 ·have:=h7 x hx
  simp only [okHorse,Bool.and_eq_true,rg_iff] at this
  omega
theorem okH_l4 {b:HairBook} (h:okH b=true):b.Hanks.length≤4:=by
 simp only [okH,Bool.and_eq_true,decide_eq_true_eq] at h
 omega
theorem q84_iff (x y:Hair_dye):q108 x y=true↔x=y:=by
 cases x;cases y
 simp [q108]
def shOf (b:HairBook) (h n:Int):Span:=match b.Hanks[h.toNat]? with
 | some x=>⟨x.Shade.Low+n,x.Shade.High+n⟩
 | none=>⟨0,0⟩
def ShK (b:HairBook) (k j:Int) (m:List (Hair_dye×Span)):Prop:=∀ h n,mget q108 m ⟨h,n⟩=bif (decide (0≤h)&&decide (h<k)&&decide (0≤n)&&decide (n≤b.Dark))||(decide (h=k)&&decide (0≤n)&&decide (n<j)) then some (shOf b h n) else none
theorem eachS_inv {α S:Type} {f:Int→α→S→Option S} (I:Nat→S→Prop):∀ (xs:List α) (i:Nat) (s:S),I i s→(∀ j x s,i≤j→xs[j - i]?=some x→I j s→∃ s',f (j:Int) x s=some s'∧I (j+1) s')→∃ s',eachS f xs (i:Int) s=some s'∧I (i+xs.length) s'
 | [],i,s,hs,h=>⟨s,rfl,by simpa using hs⟩
 | x::xs,i,s,hs,h=>by
  obtain ⟨s1,e1,h1⟩:=h i x s (Nat.le_refl _) (by simp) hs
  obtain ⟨s2,e2,h2⟩:=eachS_inv I xs (i+1) s1 h1 (fun j y s hj hy hI=>h j y s (by omega) (by
   have:j - i=(j - (i+1))+1:=by omega
   rw [this,List.getElem?_cons_succ];exact hy) hI)
  refine ⟨s2,?_,?_⟩
  ·rw [eachS,e1,bsm,show (i:Int)+1=((i+1:Nat):Int) by omega,e2]
  ·rw [List.length_cons,show i+(xs.length+1)=i+1+xs.length by omega];exact h2
theorem p80_8 {b:HairBook} (ok:OkH b) {k:Nat} {x:HairHank} (hx:b.Hanks[k]?=some x) {j:Int} (h0:0≤j) (h1:j≤b.Dark) {m:List (Hair_dye×Span)} (hm:ShK b k j m):∃ m',g33_8 (k:Int) x j m=some m'∧ShK b k (j+1) m':=by
 have hd:=ok.dark
 have hs:=(ok.hanks x (List.mem_of_getElem? hx)).s
 have hnone:mget q108 m ⟨(k:Int),j⟩=none:=by
  rw [hm]
  have:((decide (0≤(k:Int))&&decide ((k:Int)<(k:Int))&&decide (0≤j)&&decide (j≤b.Dark))||(decide ((k:Int)=(k:Int))&&decide (0≤j)&&decide (j<j)))=false:=by simp
  rw [this];rfl
 have hsh:shOf b (k:Int) j=⟨x.Shade.Low+j,x.Shade.High+j⟩:=by
  unfold shOf
  rw [Int.toNat_natCast,hx]
 refine ⟨m++[(⟨(k:Int),j⟩,⟨x.Shade.Low+j,x.Shade.High+j⟩)],?_,fun h n=>?_⟩
 ·unfold g33_8 mput
  rw [hnone,wr_in (by omega) (by omega),wr_in (by omega) (by omega)]
  rfl
 ·rw [mget_append]
  by_cases he:h=(k:Int)∧n=j
  ·obtain ⟨rfl,rfl⟩:=he
   rw [hnone]
   have hq:q108 ⟨(k:Int),n⟩ ⟨(k:Int),n⟩=true:=(q84_iff _ _).2 rfl
   have ht:((decide (0≤(k:Int))&&decide ((k:Int)<(k:Int))&&decide (0≤n)&&decide (n≤b.Dark))||(decide ((k:Int)=(k:Int))&&decide (0≤n)&&decide (n<n+1)))=true:=by
    simp;omega
   rw [ht,hsh]
   simp only [hq,cond_true]
  ·have hq:q108 ⟨h,n⟩ ⟨(k:Int),j⟩=false:=by
    cases hc:q108 ⟨h,n⟩ ⟨(k:Int),j⟩ with
    | false=>rfl
    | true=>
     have:=(q84_iff _ _).1 hc
     injection this with e1 e2
     exact absurd ⟨e1,e2⟩ he
   rw [hm,hq]
   have:(decide (h=(k:Int))&&decide (0≤n)&&decide (n<j))=(decide (h=(k:Int))&&decide (0≤n)&&decide (n<j+1)):=by
    rw [Bool.eq_iff_iff]
    simp only [Bool.and_eq_true,decide_eq_true_eq]
    constructor
    ·rintro ⟨⟨a1,a2⟩,a3⟩;exact ⟨⟨a1,a2⟩,by omega⟩
    ·rintro ⟨⟨a1,a2⟩,a3⟩
     refine ⟨⟨a1,a2⟩,?_⟩
     by_cases e:n=j
     ·exact absurd ⟨a1,e⟩ he
     ·omega
   rw [this]
   cases (decide (0≤h)&&decide (h<(k:Int))&&decide (0≤n)&&decide (n≤b.Dark))||(decide (h=(k:Int))&&decide (0≤n)&&decide (n<j+1))<;>rfl
def ShOk (b:HairBook) (m:List (Hair_dye×Span)):Prop:=∀ (h n:Int),0≤h→h<b.Hanks.length→0≤n→n≤b.Dark→mget q108 m ⟨h,n⟩=some (shOf b h n)
theorem p80 {b:HairBook} (ok:OkH b):∃ m,g33 b=some (b,m)∧ShOk b m:=by
 have hd:=ok.dark
 have e:wr (b.Dark+1)=b.Dark+1:=wr_in (by omega) (by omega)
 obtain ⟨m,em,hm⟩:=eachS_inv (f:=g33_3 b) (fun k m=>ShK b (k:Int) 0 m) b.Hanks 0 [] (fun h n=>by
  have:((decide (0≤h)&&decide (h<((0:Nat):Int))&&decide (0≤n)&&decide (n≤b.Dark))||(decide (h=((0:Nat):Int))&&decide (0≤n)&&decide (n<0)))=false:=by
   rw [Bool.eq_false_iff]
   intro hc
   simp only [Bool.or_eq_true,Bool.and_eq_true,decide_eq_true_eq] at hc
   omega
  rw [this];rfl) (fun k x m hk hx hm=>by
  rw [Nat.sub_zero] at hx
  obtain ⟨m',e',h'⟩:=forS_inv (f:=g33_8 (k:Int) x) (fun j m=>ShK b (k:Int) j m) (b.Dark+1 - 0).toNat 0 m hm (fun j s j1 j2 hs=>p80_8 ok hx j1 (by omega) hs)
  refine ⟨m',by unfold g33_3;rw [e,e',bsm],fun h n=>?_⟩
  rw [h']
  congr 1
  rw [Bool.eq_iff_iff]
  simp only [Bool.or_eq_true,Bool.and_eq_true,decide_eq_true_eq]
  omega)
 refine ⟨m,?_,fun h n h1 h2 h3 h4=>?_⟩
 ·unfold g33
  rw [show ((0:Nat):Int)=0 from rfl] at em
  rw [em,bsm]
 ·rw [hm]
  have:((decide (0≤h)&&decide (h<((0+b.Hanks.length:Nat):Int))&&decide (0≤n)&&decide (n≤b.Dark))||(decide (h=((0+b.Hanks.length:Nat):Int))&&decide (0≤n)&&decide (n<0)))=true:=by
   simp only [Bool.or_eq_true,Bool.and_eq_true,decide_eq_true_eq]
   omega
  rw [this];rfl
def nearB (b:HairBook) (want:Int) (s:Span):Bool:=decide (s.High - want≤b.Near)&&decide (want - s.Low≤b.Near)
def mB (b:HairBook) (want mane tail m t:Int):Bool:=nearB b want (shOf b mane m)&&nearB b want (shOf b tail t) &&
 bif decide (mane=tail) then decide (-b.Match≤m - t)&&decide (m - t≤b.Match) else decide ((shOf b mane m).High - (shOf b tail t).Low≤b.Match)&&decide ((shOf b tail t).High - (shOf b mane m).Low≤b.Match)
theorem sh_bd {b:HairBook} (ok:OkH b) {h n:Int} (h1:0≤h) (h2:h<b.Hanks.length) (h3:0≤n) (h4:n≤b.Dark):0≤(shOf b h n).Low∧(shOf b h n).Low≤(shOf b h n).High∧(shOf b h n).High≤24:=by
 have hd:=ok.dark
 have hlt:h.toNat<b.Hanks.length:=by omega
 have hs:=(ok.hanks _ (List.getElem_mem hlt)).s
 unfold shOf
 rw [List.getElem?_eq_getElem hlt]
 simp only
 omega
theorem p100 {b:HairBook} (ok:OkH b) {mf:List (Hair_dye×Span)} (hmf:ShOk b mf) {horse:Int} {p:HairHorse} (hp:ixL b.Horses horse=some p) (hw:0≤p.Shade∧p.Shade≤25) {mane tail m t:Int} (a1:0≤mane) (a2:mane<b.Hanks.length) (b1:0≤tail) (b2:tail<b.Hanks.length)
  (m1:0≤m) (m2:m≤b.Dark) (t1:0≤t) (t2:t≤b.Dark):g72 b mf horse ⟨mane,m⟩ ⟨tail,t⟩=some (mB b p.Shade mane tail m t):=by
 have hd:=ok.dark
 have hn:=ok.near
 have hma:=ok.mat
 have hs:=sh_bd ok a1 a2 m1 m2
 have ht:=sh_bd ok b1 b2 t1 t2
 unfold g72
 rw [hp,bsm,hmf mane m a1 a2 m1 m2,hmf tail t b1 b2 t1 t2]
 simp only [Option.getD_some]
 generalize hS:shOf b mane m=s at hs
 generalize hT:shOf b tail t=u at ht
 have g3:∀ a x y z,g75 a [x,y,z]=some (max (max (max a x) y) z):=fun _ _ _ _=>rfl
 have g1:∀ a x,g75 a [x]=some (max a x):=fun _ _=>rfl
 rw [wr_in (show -9223372036854775808≤s.High - p.Shade by omega) (by omega),wr_in (show -9223372036854775808≤p.Shade - s.Low by omega) (by omega),wr_in (show -9223372036854775808≤u.High - p.Shade by omega) (by omega),wr_in (show -9223372036854775808≤p.Shade - u.Low by omega) (by omega),g3,bsm,
  wr_in (show -9223372036854775808≤m - t by omega) (by omega),wr_in (show -9223372036854775808≤-b.Match by omega) (by omega),wr_in (show -9223372036854775808≤s.High - u.Low by omega) (by omega),wr_in (show -9223372036854775808≤u.High - s.Low by omega) (by omega),g1,p57]
 simp only [bsm,cs]
 unfold mB nearB
 rw [hS,hT]
 by_cases hnear:b.Near<max (max (max (s.High - p.Shade) (p.Shade - s.Low)) (u.High - p.Shade)) (p.Shade - u.Low)
 ·rw [decide_eq_true hnear,cond_true]
  have:(decide (s.High - p.Shade≤b.Near)&&decide (p.Shade - s.Low≤b.Near)&&(decide (u.High - p.Shade≤b.Near)&&decide (p.Shade - u.Low≤b.Near)))=false:=by
   rw [Bool.eq_false_iff]
   intro hc
   simp only [Bool.and_eq_true,decide_eq_true_eq] at hc
   omega
  rw [this];rfl
 ·rw [decide_eq_false hnear,cond_false]
  have:(decide (s.High - p.Shade≤b.Near)&&decide (p.Shade - s.Low≤b.Near)&&(decide (u.High - p.Shade≤b.Near)&&decide (p.Shade - u.Low≤b.Near)))=true:=by
   simp only [Bool.and_eq_true,decide_eq_true_eq]
   omega
  rw [this,Bool.true_and]
  by_cases he:mane=tail
  ·rw [decide_eq_true he]
   simp only [cond_true]
   by_cases hmt:m=t
   ·subst he;subst hmt
    have e1:(false != ((mane==mane)&&((m==m)&&true)))=true:=by simp
    have e2:(decide (-b.Match≤m - m)&&decide (m - m≤b.Match))=true:=by
     simp only [Bool.and_eq_true,decide_eq_true_eq];omega
    rw [e1,e2];rfl
   ·have e1:(false != ((mane==tail)&&((m==t)&&true)))=false:=by
     have:(m==t)=false:=by simpa using hmt
     rw [this];simp
    rw [e1];rfl
  ·rw [decide_eq_false he]
   simp only [cond_false]
   congr 1
   rw [Bool.eq_iff_iff]
   simp only [Bool.and_eq_true,decide_eq_true_eq]
   omega
def dyesF (b:HairBook) (want mane tail:Int):Option (Int×Int):=(firstI (fun m=>(firstI (fun t=>mB b want mane tail m t) (b.Dark+1).toNat 0).isSome) (b.Dark+1).toNat 0).map fun m=>(m,(firstI (fun t=>mB b want mane tail m t) (b.Dark+1).toNat 0).getD 0)
theorem p59 {b:HairBook} (ok:OkH b) {mf:List (Hair_dye×Span)} (hmf:ShOk b mf) {horse:Int} {p:HairHorse} (hp:ixL b.Horses horse=some p) (hw:0≤p.Shade∧p.Shade≤25) {mane tail:Int} (a1:0≤mane) (a2:mane<b.Hanks.length) (b1:0≤tail) (b2:tail<b.Hanks.length) :
  g60 b mf horse mane tail=some (match dyesF b p.Shade mane tail with | some x=>(⟨mane,x.1⟩,⟨tail,x.2⟩,true) | none=>(⟨0,0⟩,⟨0,0⟩,false)):=by
 have hd:=ok.dark
 have e:wr (b.Dark+1)=b.Dark+1:=wr_in (by omega) (by omega)
 unfold g60
 rw [e,Int.sub_zero]
 have:=forC_firstU (f:=g60_2 b mf horse mane tail) (fun m=>(firstI (fun t=>mB b p.Shade mane tail m t) (b.Dark+1).toNat 0).isSome) (fun m=>((⟨mane,m⟩:Hair_dye),(⟨tail,(firstI (fun t=>mB b p.Shade mane tail m t) (b.Dark+1).toNat 0).getD 0⟩:Hair_dye),true)) (b.Dark+1).toNat 0 (fun m m1 m2=>by
  have:=forC_firstU (f:=g60_6 b mf horse mane tail m) (fun t=>mB b p.Shade mane tail m t) (fun t=>.brk ((⟨mane,m⟩:Hair_dye),(⟨tail,t⟩:Hair_dye),true)) (b.Dark+1).toNat 0 (fun t t1 t2=>by
   unfold g60_6
   rw [p100 ok hmf hp hw a1 a2 b1 b2 m1 (by omega) t1 (by omega),bsm,cs])
  unfold g60_2
  rw [e,Int.sub_zero,this]
  cases firstI (fun t=>mB b p.Shade mane tail m t) (b.Dark+1).toNat 0<;>rfl)
 rw [this]
 unfold dyesF
 cases firstI (fun m=>(firstI (fun t=>mB b p.Shade mane tail m t) (b.Dark+1).toNat 0).isSome) (b.Dark+1).toNat 0<;>rfl
end Go.Proofs.YthcpnbeikdhlkaaDoor
namespace Go.Proofs.YthcpnbeikdhlkaaDoor
open Go.Abs Go.Proofs.Tt
theorem p39 (n:Int) {many:Int} (h1:1≤many) (h2:many≤9223372036854775807):∃ r,g7 n many=some r∧0≤r∧r<many:=by
 have a1:=Int.tmod_lt_of_pos n (show 0<many by omega)
 have a2:=Int.lt_tmod_of_pos n (show 0<many by omega)
 unfold g7
 rw [decide_eq_false (by omega),cond_false,must_t (by simp;omega),bsm]
 by_cases h:n.tmod many<0
 ·rw [decide_eq_true h,cond_true,wr_in (by omega) (by omega)]
  exact ⟨_,rfl,by omega,by omega⟩
 ·rw [decide_eq_false h,cond_false]
  exact ⟨_,rfl,by omega,by omega⟩
end Go.Proofs.YthcpnbeikdhlkaaDoor
namespace Go.Proofs.YthcpnbeikdhlkaaDoor
open Go.Abs Go.Proofs.Tt
def partN (b:HairBook) (v:Nat):Int:=match b.Horses[v / 2]? with
 | some h=>bif decide (v % 2=0) then h.Mane else h.Tail
 | none=>0
def cutS (b:HairBook):List Int→Nat→Int→Int
 | [],_,_=>0
 | p::ps,v,k=>(bif decide (p=k) then partN b v else 0)+cutS b ps (v+1) k
theorem partN_bd {b:HairBook} (ok:OkH b) (v:Nat):0≤partN b v∧partN b v≤30:=by
 unfold partN
 cases hh:b.Horses[v / 2]? with
 | none=>simp
 | some h=>
  obtain ⟨h1,h2,_⟩:=ok.horses h (List.mem_of_getElem? hh)
  simp only
  cases decide (v % 2=0)<;>simp only [cond_true,cond_false]<;>omega
theorem cutS_bd {b:HairBook} (ok:OkH b) (k:Int):∀ (ps:List Int) (v:Nat),0≤cutS b ps v k∧cutS b ps v k≤30*ps.length
 | [],v=>by simp [cutS]
 | p::ps,v=>by
  have h1:=partN_bd ok v
  have h2:=cutS_bd ok k ps (v+1)
  rw [cutS,List.length_cons]
  cases decide (p=k)<;>simp only [cond_true,cond_false]<;>omega
def planB (b:HairBook) (plan:List Int):Bool:=decide ((plan.length:Int)=2*(b.Horses.length:Int))&&plan.all fun n=>rg n 0 ((b.Hanks.length:Int) - 1)
structure PlanOk (b:HairBook) (plan:List Int):Prop where
 len:plan.length=2*b.Horses.length
 rng:∀ n,n∈plan→0≤n∧n<b.Hanks.length
theorem plan_of {b:HairBook} {plan:List Int} (h:planB b plan=true):PlanOk b plan:=by
 simp only [planB,Bool.and_eq_true,decide_eq_true_eq,List.all_eq_true,rg_iff] at h
 exact ⟨by omega,fun n hn=>by have:=h.2 n hn;omega⟩
theorem tdiv_nat (v:Nat):(v:Int).tdiv 2=((v / 2:Nat):Int):=rfl
theorem tmod_nat (v:Nat):(v:Int).tmod 2=((v % 2:Nat):Int):=rfl
theorem aset_get (w:Nat→Int) (j k:Nat) (x:Int):aset w j x k=if k=j then x else w k:=by
 unfold aset
 by_cases h:k=j
 ·subst h;simp
 ·rw [if_neg h]
  cases hb:Nat.beq k j with
  | true=>exact absurd (Nat.eq_of_beq_eq_true hb) h
  | false=>rfl
def fitK (b:HairBook) (plan:List Int):Bool:=b.Hanks.zipIdx.all fun y=>!decide (y.1.Weight.Low<cutS b plan 0 (y.2:Int))
def dyeK (b:HairBook) (plan:List Int):Bool:=b.Horses.zipIdx.all fun y=>(dyesF b y.1.Shade ((plan[2*y.2]?).getD 0) ((plan[2*y.2+1]?).getD 0)).isSome
def worksB (b:HairBook) (plan:List Int):Bool:=fitK b plan&&dyeK b plan
end Go.Proofs.YthcpnbeikdhlkaaDoor
namespace Go.Proofs.YthcpnbeikdhlkaaDoor
open Go Go.Abs Go.Proofs.Tt
theorem cutS_snoc (b:HairBook) (k p:Int):∀ (ps:List Int) (v:Nat),cutS b (ps++[p]) v k=cutS b ps v k+bif decide (p=k) then partN b (v+ps.length) else 0
 | [],v=>by simp [cutS]
 | q::ps,v=>by
  rw [List.cons_append,cutS,cutS_snoc b k p ps (v+1),cutS,List.length_cons,show v+1+ps.length=v+(ps.length+1) by omega]
  omega
end Go.Proofs.YthcpnbeikdhlkaaDoor
namespace Go.Proofs.YthcpnbeikdhlkaaDoor
open Go.Abs Go.Proofs.Tt
def runY {A S:Type} (c:A→S→Option (S×Bool)):List A→S→Option (S×Bool)
 | [],s=>some (s,true)
 | a::l,s=>(c a s).bind fun r=>bif r.2 then runY c l r.1 else some (r.1,false)
theorem runY_append {A S:Type} (c:A→S→Option (S×Bool)):∀ (l m:List A) (s:S),runY c (l++m) s=(runY c l s).bind fun r=>bif r.2 then runY c m r.1 else some (r.1,false)
 | [],m,s=>by simp [runY]
 | a::l,m,s=>by
  rw [List.cons_append,runY,runY]
  cases c a s with
  | none=>rfl
  | some r=>
   obtain ⟨s',go⟩:=r
   cases go with
   | false=>rfl
   | true=>exact runY_append c l m s'
theorem runY_fold {A S X:Type} {B:A→S→Option (Ctl S X)} (g:S→A→S):∀ (l:List A) (s:S),(∀ a s,a∈l→B a s=some (.next (g s a)))→runY (fun a s=>rndC B a s) l (.next s)=some (.next (l.foldl g s),true)
 | [],s,h=>rfl
 | a::l,s,h=>by
  rw [runY]
  simp only [rndC,h a s (by simp),bsm,isNext,cond_true,List.foldl_cons]
  exact runY_fold g l _ (fun x s hx=>h x s (by simp [hx]))
theorem runY_stop {A S X:Type} {B:A→S→Option (Ctl S X)} (r:X) (l:List A) (s:S) (h:∀ a s,B a s=some (.brk r)):runY (fun a s=>rndC B a s) l (.next s)=some (match l with | []=>(.next s,true) | _::_=>(.brk r,false)):=by
 cases l with
 | nil=>rfl
 | cons a l=>
  rw [runY]
  simp only [rndC,h a s,bsm,isNext]
  rfl
def tr (K:Nat) (ok:List Int→Bool):Nat→List Int→List (List Int)
 | 0,p=>bif ok p then [p] else []
 | n+1,p=>bif ok p then (List.range' 0 K).flatMap fun (k:Nat)=>tr K ok n (p++[(k:Int)]) else []
def allp (K:Nat):Nat→List Int→List (List Int)
 | 0,p=>[p]
 | n+1,p=>(List.range' 0 K).flatMap fun (k:Nat)=>allp K n (p++[(k:Int)])
theorem mem_allp {K:Nat} {q:List Int}:∀ {n:Nat} {p:List Int},q∈allp K n p↔∃ l,q=p++l∧l.length=n∧∀ x,x∈l→0≤x∧x<K
 | 0,p=>by
  rw [allp,List.mem_singleton]
  constructor
  ·rintro rfl;exact ⟨[],by simp,rfl,by simp⟩
  ·rintro ⟨l,h1,h2,h3⟩
   rw [List.length_eq_zero_iff.1 h2] at h1;simpa using h1
 | n+1,p=>by
  rw [allp,List.mem_flatMap]
  constructor
  ·rintro ⟨k,hk,hq⟩
   rw [List.mem_range'_1] at hk
   obtain ⟨l,h1,h2,h3⟩:=mem_allp.1 hq
   refine ⟨(k:Int)::l,by rw [h1];simp,by simp [h2],fun x hx=>?_⟩
   rcases List.mem_cons.1 hx with rfl | hx
   ·omega
   ·exact h3 x hx
  ·rintro ⟨l,h1,h2,h3⟩
   cases l with
   | nil=>simp at h2
   | cons x l=>
    have hx:=h3 x (by simp)
    refine ⟨x.toNat,by rw [List.mem_range'_1];omega,mem_allp.2 ⟨l,?_,by simpa using h2,fun y hy=>h3 y (by simp [hy])⟩⟩
    rw [show ((x.toNat:Nat):Int)=x by omega,h1];simp
theorem allp_pre {K:Nat} {ok:List Int→Bool} (hok:∀ p k,ok (p++[k])=true→ok p=true) {q:List Int}:∀ {n:Nat} {p:List Int},q∈allp K n p→ok q=true→ok p=true
 | 0,p,h,hq=>by
  rw [allp,List.mem_singleton] at h
  rw [← h];exact hq
 | n+1,p,h,hq=>by
  rw [allp,List.mem_flatMap] at h
  obtain ⟨k,_,h⟩:=h
  exact hok _ _ (allp_pre hok h hq)
theorem tr_eq {K:Nat} {ok:List Int→Bool} (hok:∀ p k,ok (p++[k])=true→ok p=true):∀ (n:Nat) (p:List Int),tr K ok n p=(allp K n p).filter ok
 | 0,p=>by
  rw [tr,allp,List.filter_cons]
  cases ok p<;>rfl
 | n+1,p=>by
  rw [tr]
  cases hp:ok p with
  | true=>
   rw [cond_true,allp,List.filter_flatMap]
   congr 1
   funext k
   exact tr_eq hok n _
  | false=>
   rw [cond_false,Eq.comm,List.filter_eq_nil_iff]
   intro q hq hc
   have:=allp_pre hok hq hc
   rw [hp] at this;cases this
theorem eachC_run {α A S:Type} {f:Int→α→S→Option (Ctl S (Bool×S))} (c:A→S→Option (S×Bool)) (L:Nat→List A):∀ (xs:List α) (i:Nat) (s:S),(∀ (j:Nat) x s,i≤j→xs[j - i]?=some x→f (j:Int) x s=(runY c (L j) s).map fun r=>bif r.2 then .next r.1 else .brk (false,r.1)) →
  eachC f xs (i:Int) s=(runY c ((List.range' i xs.length).flatMap L) s).map fun r=>bif r.2 then .next r.1 else .brk (false,r.1)
 | [],i,s,h=>rfl
 | x::xs,i,s,h=>by
  rw [eachC,h i x s (Nat.le_refl _) (by simp),List.length_cons,List.range'_succ,List.flatMap_cons,runY_append]
  cases runY c (L i) s with
  | none=>rfl
  | some r=>
   obtain ⟨s',go⟩:=r
   cases go with
   | false=>rfl
   | true=>
    simp only [Option.map_some,bsm,cond_true]
    rw [show (i:Int)+1=((i+1:Nat):Int) by omega]
    exact eachC_run c L xs (i+1) s' (fun j y s hj hy=>h j y s (by omega) (by
     have:j - i=(j - (i+1))+1:=by omega
     rw [this,List.getElem?_cons_succ];exact hy))
def shH (b:HairBook) (i:Nat):Int:=match b.Horses[i]? with | some x=>x.Shade | none=>0
def dyeQ (b:HairBook) (p:List Int):Bool:=(List.range (p.length / 2)).all fun i=>(dyesF b (shH b i) ((p[2*i]?).getD 0) ((p[2*i+1]?).getD 0)).isSome
def fitP (b:HairBook) (by_:Span→Int) (p:List Int):Bool:=b.Hanks.zipIdx.all fun y=>!decide (by_ y.1.Weight<cutS b p 0 (y.2:Int))
def okP (b:HairBook) (by_:Span→Int) (p:List Int):Bool:=fitP b by_ p&&dyeQ b p
theorem fitP_iff {b:HairBook} {by_:Span→Int} {p:List Int}:fitP b by_ p=true↔∀ (k:Nat) x,b.Hanks[k]?=some x→cutS b p 0 (k:Int)≤by_ x.Weight:=by
 unfold fitP
 rw [List.all_eq_true]
 constructor
 ·intro h k x hx
  have:=h (x,k) (by
   rw [List.mem_iff_getElem?]
   exact ⟨k,by rw [List.getElem?_zipIdx,hx];simp⟩)
  simpa using this
 ·intro h y hy
  rw [List.mem_iff_getElem?] at hy
  obtain ⟨k,hk⟩:=hy
  rw [List.getElem?_zipIdx] at hk
  cases hx:b.Hanks[k]? with
  | none=>rw [hx] at hk;cases hk
  | some x=>
   rw [hx] at hk
   simp only [Option.map_some,Option.some.injEq,Nat.zero_add] at hk
   subst hk
   have:=h k x hx
   simpa using this
theorem all_congr {α:Type} {f g:α→Bool}:∀ {l:List α},(∀ x,x∈l→f x=g x)→l.all f=l.all g
 | [],h=>rfl
 | x::l,h=>by rw [List.all_cons,List.all_cons,h x (by simp),all_congr (fun y hy=>h y (by simp [hy]))]
theorem dyeQ_snoc (b:HairBook) (p:List Int) (k:Int):dyeQ b (p++[k])=(dyeQ b p&&bif decide (p.length % 2=1) then (dyesF b (shH b (p.length / 2)) ((p[p.length - 1]?).getD 0) k).isSome else true):=by
 have hc:∀ i,i<p.length / 2→(dyesF b (shH b i) (((p++[k])[2*i]?).getD 0) (((p++[k])[2*i+1]?).getD 0)).isSome=(dyesF b (shH b i) ((p[2*i]?).getD 0) ((p[2*i+1]?).getD 0)).isSome:=fun i hi=>by
  rw [List.getElem?_append_left (by omega),List.getElem?_append_left (by omega)]
 unfold dyeQ
 rw [List.length_append,List.length_singleton]
 by_cases h:p.length % 2=1
 ·rw [decide_eq_true h,cond_true,show (p.length+1) / 2=p.length / 2+1 by omega,List.range_succ,List.all_append,all_congr (fun i hi=>hc i (List.mem_range.1 hi))]
  congr 1
  rw [List.all_cons,List.all_nil,Bool.and_true,List.getElem?_append_left (by omega),List.getElem?_append_right (by omega),show 2*(p.length / 2)+1 - p.length=0 by omega,show 2*(p.length / 2)=p.length - 1 by omega]
  rfl
 ·rw [decide_eq_false h,cond_false,Bool.and_true,show (p.length+1) / 2=p.length / 2 by omega,all_congr (fun i hi=>hc i (List.mem_range.1 hi))]
theorem fitP_snoc {b:HairBook} (ok:OkH b) {by_:Span→Int} {p:List Int} (hp:fitP b by_ p=true) {k:Nat} {x:HairHank} (hx:b.Hanks[k]?=some x):fitP b by_ (p++[(k:Int)])=!decide (by_ x.Weight<cutS b p 0 (k:Int)+partN b p.length):=by
 rw [fitP_iff] at hp
 rw [Bool.eq_iff_iff,fitP_iff]
 simp only [Bool.not_eq_true',decide_eq_false_iff_not,Int.not_lt]
 constructor
 ·intro h
  have:=h k x hx
  rw [cutS_snoc,decide_eq_true rfl,cond_true,Nat.zero_add] at this
  exact this
 ·intro h j y hy
  rw [cutS_snoc,Nat.zero_add]
  by_cases e:(k:Int)=(j:Int)
  ·have:j=k:=by omega
   subst this
   rw [decide_eq_true rfl,cond_true]
   rw [hx] at hy;cases hy;exact h
  ·rw [decide_eq_false e,cond_false]
   have:=hp j y hy
   omega
theorem okP_snoc {b:HairBook} (ok:OkH b) {by_:Span→Int} {p:List Int} (hp:okP b by_ p=true) {k:Nat} {x:HairHank} (hx:b.Hanks[k]?=some x):okP b by_ (p++[(k:Int)])=(!decide (by_ x.Weight<cutS b p 0 (k:Int)+partN b p.length)&&bif decide (p.length % 2=1) then (dyesF b (shH b (p.length / 2)) ((p[p.length - 1]?).getD 0) (k:Int)).isSome else true):=by
 unfold okP at hp ⊢
 rw [Bool.and_eq_true] at hp
 rw [fitP_snoc ok hp.1 hx,dyeQ_snoc,hp.2,Bool.true_and]
theorem fitP_pre {b:HairBook} (ok:OkH b) {by_:Span→Int} {p:List Int} {k:Int} (h:fitP b by_ (p++[k])=true):fitP b by_ p=true:=by
 rw [fitP_iff] at h ⊢
 intro j x hx
 have:=h j x hx
 rw [cutS_snoc,Nat.zero_add] at this
 have hb:=partN_bd ok p.length
 cases hd:decide (k=(j:Int))<;>rw [hd] at this<;>simp only [cond_true,cond_false] at this<;>omega
theorem okP_pre {b:HairBook} (ok:OkH b) {by_:Span→Int} (p:List Int) (k:Int) (h:okP b by_ (p++[k])=true):okP b by_ p=true:=by
 unfold okP at h ⊢
 rw [Bool.and_eq_true] at h ⊢
 refine ⟨fitP_pre ok h.1,?_⟩
 rw [dyeQ_snoc,Bool.and_eq_true] at h
 exact h.2.1
def cutF (b:HairBook) (p:List Int):Nat→Int:=fun k=>cutS b p 0 (k:Int)
theorem p112 {S:Type} (c:List Int→(Nat→Int)→S→Option (S×Bool)) {b:HairBook} (ok:OkH b) {mf:List (Hair_dye×Span)} (hmf:ShOk b mf):∀ (n fuel:Nat) (p:List Int) (s:S),p.length+n=2*b.Horses.length→n+1≤fuel→(∀ x,x∈p→0≤x∧x<b.Hanks.length)→okP b (·.Low) p=true →
  g57 c fuel p (cutF b p) b mf b mf s=(runY (fun q s=>c q (cutF b q) s) (tr b.Hanks.length (okP b (·.Low)) n p) s).map fun r=>(r.2,r.1)
 | 0,fuel,p,s,hl,hf,hr,ho=>by
  have h3:=ok.l3
  obtain ⟨fuel,rfl⟩:∃ j,fuel=j+1:=⟨fuel - 1,by omega⟩
  rw [g57,wr_in (by omega) (by omega),decide_eq_true (show (p.length:Int)=2*(b.Horses.length:Int) by omega),cond_true,tr,ho,cond_true,runY]
  cases c p (cutF b p) s with
  | none=>rfl
  | some r=>obtain ⟨s',go⟩:=r;cases go<;>rfl
 | n+1,fuel,p,s,hl,hf,hr,ho=>by
  have h3:=ok.l3
  have h4:=ok.l4
  obtain ⟨fuel,rfl⟩:∃ j,fuel=j+1:=⟨fuel - 1,by omega⟩
  have hlt:p.length / 2<b.Horses.length:=by omega
  have hpn:=partN_bd ok p.length
  have hH:=ok.horses _ (List.getElem_mem hlt)
  rw [g57,wr_in (by omega) (by omega),decide_eq_false (show ¬ (p.length:Int)=2*(b.Horses.length:Int) by omega),cond_false,tdiv_nat,tmod_nat,ixN_nat (show p.length % 2<2 by omega)]
  rw [wr_in (show -9223372036854775808≤((p.length / 2:Nat):Int) by omega) (by omega)]
  rw [ixL_nat,List.getElem?_eq_getElem hlt]
  have key:∀ {X:Option Int} {F:Int→Option (Bool×S)} {R:Option (Bool×S)},X=some (partN b p.length)→F (partN b p.length)=R→X.bind F=R:=by
   intro X F R h1 h2;rw [h1];exact h2
  refine key ?_ ?_
  ·unfold partN
   rw [List.getElem?_eq_getElem hlt]
   have hm:p.length % 2=0∨p.length % 2=1:=by omega
   rcases hm with hm | hm<;>rw [hm]<;>rfl
  have hstep:∀ (j:Nat) (x:HairHank) (s:S),0≤j→b.Hanks[j - 0]?=some x→g57_16 (g57 c fuel) p (cutF b p) b mf b mf (partN b p.length) (j:Int) x s=(runY (fun q s=>c q (cutF b q) s) (tr b.Hanks.length (okP b (·.Low)) n (p++[(j:Int)])) s).map fun r=>bif r.2 then .next r.1 else .brk (false,r.1):=fun j x s _ hx=>by
   rw [Nat.sub_zero] at hx
   have hj:=(List.getElem?_eq_some_iff.1 hx).1
   have hcut:=cutS_bd ok (j:Int) p 0
   have hsn:=okP_snoc ok ho hx
   have hshH:shH b (p.length / 2)=b.Horses[p.length / 2].Shade:=by
    unfold shH;rw [List.getElem?_eq_getElem hlt]
   unfold g57_16
   rw [ixN_nat (show j<5 by omega),bsm]
   simp only [g59,bsm]
   rw [show cutF b p j=cutS b p 0 (j:Int) from rfl,wr_in (show -9223372036854775808≤cutS b p 0 (j:Int)+partN b p.length by omega) (by omega)]
   have hgo:okP b (·.Low) (p++[(j:Int)])=true→(slcL p 0 (p.length:Int)).bind (fun l=>(appL 8 l [(j:Int)]).bind fun l1=>(g57 c fuel l1 (aset (cutF b p) j (cutS b p 0 (j:Int)+partN b p.length)) b mf b mf s).bind fun (r:Bool×S)=>bif (!r.1) then some (.brk (false,r.2)) else some (.next r.2))=(runY (fun q s=>c q (cutF b q) s) (tr b.Hanks.length (okP b (·.Low)) n (p++[(j:Int)])) s).map fun r=>bif r.2 then (.next r.1:Ctl S (Bool×S)) else .brk (false,r.1):=fun hk=>by
    rw [slcL_all,bsm,appL_ok (by rw [List.length_append,List.length_singleton];omega),bsm]
    have hw:aset (cutF b p) j (cutS b p 0 (j:Int)+partN b p.length)=cutF b (p++[(j:Int)]):=by
     funext i
     rw [aset_get]
     unfold cutF
     rw [cutS_snoc,Nat.zero_add]
     by_cases e:i=j
     ·subst e;rw [if_pos rfl,decide_eq_true rfl,cond_true]
     ·rw [if_neg e,decide_eq_false (by omega),cond_false,Int.add_zero]
    rw [hw,p112 c ok hmf n fuel (p++[(j:Int)]) s (by rw [List.length_append,List.length_singleton];omega) (by omega) (fun x hx=>by
     rcases List.mem_append.1 hx with hx | hx
     ·exact hr x hx
     ·rw [List.mem_singleton] at hx;omega) hk]
    cases runY (fun q s=>c q (cutF b q) s) (tr b.Hanks.length (okP b (·.Low)) n (p++[(j:Int)])) s with
    | none=>rfl
    | some r=>obtain ⟨s',go⟩:=r;cases go<;>rfl
   have hno:okP b (·.Low) (p++[(j:Int)])=false→(some (.next s):Option (Ctl S (Bool×S)))=(runY (fun q s=>c q (cutF b q) s) (tr b.Hanks.length (okP b (·.Low)) n (p++[(j:Int)])) s).map fun r=>bif r.2 then .next r.1 else .brk (false,r.1):=fun hk=>by
    have:tr b.Hanks.length (okP b (·.Low)) n (p++[(j:Int)])=[]:=by
     cases n<;>rw [tr,hk]<;>rfl
    rw [this];rfl
   by_cases h1:x.Weight.Low<cutS b p 0 (j:Int)+partN b p.length
   ·rw [decide_eq_true h1] at hsn ⊢
    simp only [cond_true,bindC]
    exact hno (by rw [hsn];rfl)
   ·rw [decide_eq_false h1] at hsn ⊢
    simp only [cond_false,Bool.not_false,Bool.true_and] at hsn ⊢
    by_cases h2:p.length % 2=1
    ·have hlast:p.length - 1<p.length:=by omega
     have hlr:=hr _ (List.getElem_mem hlast)
     rw [decide_eq_true h2,cond_true,List.getElem?_eq_getElem hlast,Option.getD_some,hshH] at hsn
     rw [tmod_nat,tdiv_nat,wr_in (show -9223372036854775808≤((p.length / 2:Nat):Int) by omega) (by omega),decide_eq_true (show ((p.length % 2:Nat):Int)=1 by omega),cond_true,wr_in (show -9223372036854775808≤(p.length:Int) - 1 by omega) (by omega),show (p.length:Int) - 1=((p.length - 1:Nat):Int) by omega,ixL_nat,List.getElem?_eq_getElem hlast,bsm,g36,p59 ok hmf (horse:=((p.length / 2:Nat):Int)) (p:=b.Horses[p.length / 2]) (by rw [ixL_nat,List.getElem?_eq_getElem hlt]) hH.2.2 hlr.1 hlr.2 (show (0:Int)≤(j:Int) by omega) (by omega)]
     cases hd:dyesF b b.Horses[p.length / 2].Shade p[p.length - 1] (j:Int) with
     | none=>
      rw [hd] at hsn
      simp only [bsm,Bool.not_false,cond_true,bindC]
      exact hno hsn
     | some d=>
      rw [hd] at hsn
      simp only [bsm,Bool.not_true,cond_false,bindC]
      exact hgo hsn
    ·rw [decide_eq_false h2,cond_false] at hsn
     rw [tmod_nat,decide_eq_false (show ¬ ((p.length % 2:Nat):Int)=1 by omega),cond_false]
     simp only [bindC,bsm]
     exact hgo hsn
  have:=eachC_run (f:=g57_16 (g57 c fuel) p (cutF b p) b mf b mf (partN b p.length)) (fun q s=>c q (cutF b q) s) (fun j=>tr b.Hanks.length (okP b (·.Low)) n (p++[(j:Int)])) b.Hanks 0 s hstep
  rw [show ((0:Nat):Int)=0 from rfl] at this
  rw [this,tr,ho,cond_true]
  cases runY (fun q s=>c q (cutF b q) s) ((List.range' 0 b.Hanks.length).flatMap fun (k:Nat)=>tr b.Hanks.length (okP b (·.Low)) n (p++[(k:Int)])) s with
  | none=>rfl
  | some r=>obtain ⟨s',go⟩:=r;cases go<;>rfl
def plansL (b:HairBook) (by_:Span→Int):List (List Int):=(allp b.Hanks.length (2*b.Horses.length) []).filter (okP b by_)
theorem okP_nil {b:HairBook} {by_:Span→Int} (h:∀ x,x∈b.Hanks→0≤by_ x.Weight):okP b by_ []=true:=by
 unfold okP
 rw [Bool.and_eq_true]
 refine ⟨fitP_iff.2 fun k x hx=>?_,rfl⟩
 have:=h x (List.mem_of_getElem? hx)
 simp only [cutS];exact this
theorem cutF_nil (b:HairBook):arrL [(0:Int),0,0,0,0]=cutF b []:=by
 funext k
 match k with
 | 0=>rfl
 | 1=>rfl
 | 2=>rfl
 | 3=>rfl
 | 4=>rfl
 | k+5=>rfl
theorem p111 {S:Type} (c:List Int→(Nat→Int)→S→Option (S×Bool)) {b:HairBook} (ok:OkH b) {mf:List (Hair_dye×Span)} (hmf:ShOk b mf) (s:S):g56 c b mf b mf s=(runY (fun q s=>c q (cutF b q) s) (plansL b (·.Low)) s).map (·.1):=by
 have h3:=ok.l3
 unfold g56 g58
 rw [bsm,cutF_nil b,p112 c ok hmf (2*b.Horses.length) 1000 [] s (by simp) (by omega) (by simp) (okP_nil fun x hx=>by have:=(ok.hanks x hx).w;omega),tr_eq (okP_pre ok)]
 unfold plansL
 cases runY (fun q s=>c q (cutF b q) s) ((allp b.Hanks.length (2*b.Horses.length) []).filter (okP b (·.Low))) s<;>rfl
def servedB (b:HairBook):Bool:=!(plansL b (·.Low)).isEmpty
theorem p84 {b:HairBook} (ok:OkH b) {mf:List (Hair_dye×Span)} (hmf:ShOk b mf):g32 b mf=some (servedB b):=by
 unfold g32 g35 g34
 rw [bsm,bsm]
 simp only
 rw [p111 _ ok hmf]
 have:=runY_stop (B:=fun q u=>g32_r5 (q,cutF b q) u) (X:=Unit) () (plansL b (·.Low)) () (fun a s=>rfl)
 unfold servedB
 have e:runY (fun q s=>rndC g32_r5 (q,cutF b q) s) (plansL b (·.Low)) (.next ())=runY (fun a s=>rndC (fun q u=>g32_r5 (q,cutF b q) u) a s) (plansL b (·.Low)) (.next ()):=by
  congr 1
 rw [e,this]
 cases plansL b (·.Low)<;>rfl
theorem dyeQ_full {b:HairBook} {p:List Int} (hp:p.length=2*b.Horses.length):dyeQ b p=dyeK b p:=by
 unfold dyeQ dyeK
 rw [hp,show 2*b.Horses.length / 2=b.Horses.length by omega,Bool.eq_iff_iff,List.all_eq_true,List.all_eq_true]
 constructor
 ·intro h y hy
  rw [List.mem_iff_getElem?] at hy
  obtain ⟨k,hk⟩:=hy
  rw [List.getElem?_zipIdx] at hk
  cases hx:b.Horses[k]? with
  | none=>rw [hx] at hk;cases hk
  | some x=>
   rw [hx] at hk
   simp only [Option.map_some,Option.some.injEq,Nat.zero_add] at hk
   subst hk
   have:=h k (List.mem_range.2 (List.getElem?_eq_some_iff.1 hx).1)
   unfold shH at this
   rw [hx] at this
   exact this
 ·intro h k hk
  have hlt:=List.mem_range.1 hk
  have:=h (b.Horses[k],k) (by
   rw [List.mem_iff_getElem?]
   exact ⟨k,by rw [List.getElem?_zipIdx,List.getElem?_eq_getElem hlt];simp⟩)
  unfold shH
  rw [List.getElem?_eq_getElem hlt]
  exact this
theorem planB_iff {b:HairBook} {p:List Int}:planB b p=true↔p.length=2*b.Horses.length∧∀ n,n∈p→0≤n∧n<b.Hanks.length:=by
 constructor
 ·intro h;have:=plan_of h;exact ⟨this.len,this.rng⟩
 ·rintro ⟨h1,h2⟩
  simp only [planB,Bool.and_eq_true,decide_eq_true_eq,List.all_eq_true,rg_iff]
  exact ⟨by omega,fun n hn=>by have:=h2 n hn;omega⟩
theorem mem_allP {b:HairBook} {p:List Int}:p∈allp b.Hanks.length (2*b.Horses.length) []↔planB b p=true:=by
 rw [mem_allp,planB_iff]
 constructor
 ·rintro ⟨l,h1,h2,h3⟩
  rw [List.nil_append] at h1
  subst h1;exact ⟨h2,h3⟩
 ·rintro ⟨h1,h2⟩;exact ⟨p,rfl,h1,h2⟩
theorem mem_plans {b:HairBook} {p:List Int}:p∈plansL b (·.Low)↔planB b p=true∧worksB b p=true:=by
 unfold plansL
 rw [List.mem_filter,mem_allP]
 constructor
 ·rintro ⟨h1,h2⟩
  refine ⟨h1,?_⟩
  unfold okP at h2
  rw [dyeQ_full (planB_iff.1 h1).1] at h2
  exact h2
 ·rintro ⟨h1,h2⟩
  refine ⟨h1,?_⟩
  unfold okP
  rw [dyeQ_full (planB_iff.1 h1).1]
  exact h2
theorem served_iff {b:HairBook}:servedB b=true↔∃ p,planB b p=true∧worksB b p=true:=by
 unfold servedB
 constructor
 ·intro h
  cases hl:plansL b (·.Low) with
  | nil=>rw [hl] at h;cases h
  | cons p l=>exact ⟨p,mem_plans.1 (by rw [hl];simp)⟩
 ·rintro ⟨p,hp⟩
  cases hl:plansL b (·.Low) with
  | nil=>have:=mem_plans.2 hp;rw [hl] at this;cases this
  | cons q l=>rfl
end Go.Proofs.YthcpnbeikdhlkaaDoor
namespace Go.Proofs.YthcpnbeikdhlkaaDoor
open Go.Abs Go.Proofs.Tt
theorem dyesF_some {b:HairBook} {want mane tail:Int} {d:Int×Int} (h:dyesF b want mane tail=some d):0≤d.1∧d.1≤b.Dark∧0≤d.2∧d.2≤b.Dark∧mB b want mane tail d.1 d.2=true:=by
 unfold dyesF at h
 cases hf:firstI (fun m=>(firstI (fun t=>mB b want mane tail m t) (b.Dark+1).toNat 0).isSome) (b.Dark+1).toNat 0 with
 | none=>rw [hf] at h;cases h
 | some m=>
  rw [hf] at h
  obtain ⟨m1,m2,m3,_⟩:=firstI_some hf
  cases hg:firstI (fun t=>mB b want mane tail m t) (b.Dark+1).toNat 0 with
  | none=>rw [hg] at m3;cases m3
  | some t=>
   obtain ⟨t1,t2,t3,_⟩:=firstI_some hg
   rw [Option.map_some,hg] at h
   cases h
   exact ⟨m1,by omega,t1,by simp only [Option.getD_some];omega,t3⟩
end Go.Proofs.YthcpnbeikdhlkaaDoor
namespace Go.Proofs.YthcpnbeikdhlkaaDoor
open Go.Abs Go.Proofs.Tt
theorem partN_pos {b:HairBook} (ok:OkH b) {v:Nat} (h:v<2*b.Horses.length):1≤partN b v:=by
 have hlt:v / 2<b.Horses.length:=by omega
 have hx:=ok.horses _ (List.getElem_mem hlt)
 unfold partN
 rw [List.getElem?_eq_getElem hlt]
 simp only
 cases decide (v % 2=0)<;>simp only [cond_true,cond_false]<;>omega
theorem cutS_pos {b:HairBook} (ok:OkH b) (k:Int):∀ (ps:List Int) (v:Nat),v+ps.length≤2*b.Horses.length→(0<cutS b ps v k↔k∈ps)
 | [],v,h=>by simp [cutS]
 | p::ps,v,h=>by
  simp only [List.length_cons] at h
  have h1:=partN_pos ok (show v<2*b.Horses.length by omega)
  have h2:=cutS_bd ok k ps (v+1)
  have ih:=cutS_pos ok k ps (v+1) (by omega)
  rw [cutS,List.mem_cons]
  by_cases e:p=k
  ·rw [decide_eq_true e,cond_true]
   exact ⟨fun _=>.inl e.symm,fun _=>by omega⟩
  ·rw [decide_eq_false e,cond_false,Int.zero_add,ih]
   exact ⟨fun h=>.inr h,fun h=>h.resolve_left fun h=>e h.symm⟩
end Go.Proofs.YthcpnbeikdhlkaaDoor
set_option maxRecDepth 100000
namespace Go.Proofs.YthcpnbeikdhlkaaDoor
open Go Go.Abs Go.Proofs.Tt
def LT (H s:Nat):List Int:=(g12 (s:Int) (H:Int)).getD []
def shr (l m:List Int):Option Bool:=bif decide (l.length=m.length) then (g45 l m).bind fun r=>some (decide (r<0)) else some (decide (l.length<m.length))
def rk (H s:Nat):Nat:=((List.range (2 ^ H)).filter fun t=>shr (LT H t) (LT H s)==some true).length
def keepL (xs:List HairHorse) (l:List Int):List HairHorse:=(xs.zipIdx.filter fun y=>!decide ((y.2:Int)∈l)).map (·.1)
def cmpP (l best:List Int):Option Bool:=bif (decide ((best.length:Int)<(l.length:Int))) then (some true) else (bif (decide ((l.length:Int)=(best.length:Int))) then ((g45 l best).bind fun r0_3=>some (decide (0≤r0_3))) else (some false))
theorem fact48:((List.range 4).all fun T=>(List.range (2 ^ T)).all fun s=>g12 (s:Int) (T:Int)==some (LT T s))=true:=by kernel_rfl
theorem factC:((List.range 4).all fun T=>(List.range (2 ^ T)).all fun s=>(List.range (2 ^ T)).all fun t=>cmpP (LT T s) (LT T t)==some (!decide (rk T s<rk T t)))=true:=by kernel_rfl
theorem factU:((List.range 4).all fun T=>(List.range (2 ^ T)).all fun s=>(List.range (2 ^ T)).all fun t=>decide (s=t)||!decide (rk T s=rk T t))=true:=by kernel_rfl
theorem factS:((List.range 4).all fun T=>shl64 1 (T:Int)==((2 ^ T:Nat):Int))=true:=by kernel_rfl
theorem factZ:((List.range 4).all fun T=>(LT T 0==[])&&(rk T 0==0)&&((LT T (2 ^ T - 1)).length==T)&&((List.range (2 ^ T)).all fun s=>(s==0)||!((LT T s).length==0)))=true:=by kernel_rfl
theorem all2 {P:Nat→Nat→Bool} (h:((List.range 4).all fun T=>(List.range (2 ^ T)).all fun s=>P T s)=true) {T s:Nat} (hT:T≤3) (hs:s<2 ^ T):P T s=true:=by
 rw [List.all_eq_true] at h
 have:=h T (List.mem_range.2 (by omega))
 rw [List.all_eq_true] at this
 exact this s (List.mem_range.2 hs)
theorem all3 {P:Nat→Nat→Nat→Bool} (h:((List.range 4).all fun T=>(List.range (2 ^ T)).all fun s=>(List.range (2 ^ T)).all fun t=>P T s t)=true) {T s t:Nat} (hT:T≤3) (hs:s<2 ^ T) (ht:t<2 ^ T):P T s t=true:=by
 have:=all2 h hT hs
 rw [List.all_eq_true] at this
 exact this t (List.mem_range.2 ht)
theorem f48 {T s:Nat} (hT:T≤3) (hs:s<2 ^ T):g12 (s:Int) (T:Int)=some (LT T s):=by simpa using all2 fact48 hT hs
theorem fC {T s t:Nat} (hT:T≤3) (hs:s<2 ^ T) (ht:t<2 ^ T):cmpP (LT T s) (LT T t)=some (!decide (rk T s<rk T t)):=by
 have:=all3 factC hT hs ht
 rw [beq_iff_eq] at this;exact this
theorem fU {T s t:Nat} (hT:T≤3) (hs:s<2 ^ T) (ht:t<2 ^ T) (h:rk T s=rk T t):s=t:=by
 have:=all3 factU hT hs ht
 rw [Bool.or_eq_true,Bool.not_eq_true',decide_eq_true_eq,decide_eq_false_iff_not] at this
 exact this.resolve_right fun hc=>hc h
theorem fS {T:Nat} (hT:T≤3):shl64 1 (T:Int)=((2 ^ T:Nat):Int):=by
 have:=factS
 rw [List.all_eq_true] at this
 have:=this T (List.mem_range.2 (by omega))
 rw [beq_iff_eq] at this;exact this
theorem fz0 {T:Nat} (hT:T≤3):LT T 0=[]∧rk T 0=0∧(LT T (2 ^ T - 1)).length=T∧∀ s,s<2 ^ T→(LT T s).length=0→s=0:=by
 have:=factZ
 rw [List.all_eq_true] at this
 have:=this T (List.mem_range.2 (by omega))
 rw [Bool.and_eq_true,Bool.and_eq_true,Bool.and_eq_true,beq_iff_eq,beq_iff_eq,beq_iff_eq,List.all_eq_true] at this
 obtain ⟨⟨⟨h1,h2⟩,h3⟩,h4⟩:=this
 refine ⟨h1,h2,h3,fun s hs h=>?_⟩
 have:=h4 s (List.mem_range.2 hs)
 rw [Bool.or_eq_true,beq_iff_eq,h] at this
 simpa using this
theorem pow_pos' (T:Nat):1≤2 ^ T:=Nat.one_le_two_pow
theorem pow_le' {T:Nat} (hT:T≤3):2 ^ T≤8:=Nat.pow_le_pow_right (by decide) hT
theorem ks0_0:eachS (g16_14 0) ([]:List HairHorse) 0 (([],[]):List Int×List HairHorse)=some (LT 0 0,keepL [] (LT 0 0)):=by kernel_rfl
theorem kl0_0:(keepL [] (LT 0 0)).length+(LT 0 0).length=0:=by kernel_rfl
theorem ks1_0 (a:HairHorse):eachS (g16_14 0) ([a]:List HairHorse) 0 (([],[]):List Int×List HairHorse)=some (LT 1 0,keepL [a] (LT 1 0)):=by kernel_rfl
theorem kl1_0 (a:HairHorse):(keepL [a] (LT 1 0)).length+(LT 1 0).length=1:=by kernel_rfl
theorem ks1_1 (a:HairHorse):eachS (g16_14 1) ([a]:List HairHorse) 0 (([],[]):List Int×List HairHorse)=some (LT 1 1,keepL [a] (LT 1 1)):=by kernel_rfl
theorem kl1_1 (a:HairHorse):(keepL [a] (LT 1 1)).length+(LT 1 1).length=1:=by kernel_rfl
theorem ks2_0 (a b:HairHorse):eachS (g16_14 0) ([a,b]:List HairHorse) 0 (([],[]):List Int×List HairHorse)=some (LT 2 0,keepL [a,b] (LT 2 0)):=by kernel_rfl
theorem kl2_0 (a b:HairHorse):(keepL [a,b] (LT 2 0)).length+(LT 2 0).length=2:=by kernel_rfl
theorem ks2_1 (a b:HairHorse):eachS (g16_14 1) ([a,b]:List HairHorse) 0 (([],[]):List Int×List HairHorse)=some (LT 2 1,keepL [a,b] (LT 2 1)):=by kernel_rfl
theorem kl2_1 (a b:HairHorse):(keepL [a,b] (LT 2 1)).length+(LT 2 1).length=2:=by kernel_rfl
theorem ks2_2 (a b:HairHorse):eachS (g16_14 2) ([a,b]:List HairHorse) 0 (([],[]):List Int×List HairHorse)=some (LT 2 2,keepL [a,b] (LT 2 2)):=by kernel_rfl
theorem kl2_2 (a b:HairHorse):(keepL [a,b] (LT 2 2)).length+(LT 2 2).length=2:=by kernel_rfl
theorem ks2_3 (a b:HairHorse):eachS (g16_14 3) ([a,b]:List HairHorse) 0 (([],[]):List Int×List HairHorse)=some (LT 2 3,keepL [a,b] (LT 2 3)):=by kernel_rfl
theorem kl2_3 (a b:HairHorse):(keepL [a,b] (LT 2 3)).length+(LT 2 3).length=2:=by kernel_rfl
theorem ks3_0 (a b c:HairHorse):eachS (g16_14 0) ([a,b,c]:List HairHorse) 0 (([],[]):List Int×List HairHorse)=some (LT 3 0,keepL [a,b,c] (LT 3 0)):=by kernel_rfl
theorem kl3_0 (a b c:HairHorse):(keepL [a,b,c] (LT 3 0)).length+(LT 3 0).length=3:=by kernel_rfl
theorem ks3_1 (a b c:HairHorse):eachS (g16_14 1) ([a,b,c]:List HairHorse) 0 (([],[]):List Int×List HairHorse)=some (LT 3 1,keepL [a,b,c] (LT 3 1)):=by kernel_rfl
theorem kl3_1 (a b c:HairHorse):(keepL [a,b,c] (LT 3 1)).length+(LT 3 1).length=3:=by kernel_rfl
theorem ks3_2 (a b c:HairHorse):eachS (g16_14 2) ([a,b,c]:List HairHorse) 0 (([],[]):List Int×List HairHorse)=some (LT 3 2,keepL [a,b,c] (LT 3 2)):=by kernel_rfl
theorem kl3_2 (a b c:HairHorse):(keepL [a,b,c] (LT 3 2)).length+(LT 3 2).length=3:=by kernel_rfl
theorem ks3_3 (a b c:HairHorse):eachS (g16_14 3) ([a,b,c]:List HairHorse) 0 (([],[]):List Int×List HairHorse)=some (LT 3 3,keepL [a,b,c] (LT 3 3)):=by kernel_rfl
theorem kl3_3 (a b c:HairHorse):(keepL [a,b,c] (LT 3 3)).length+(LT 3 3).length=3:=by kernel_rfl
theorem ks3_4 (a b c:HairHorse):eachS (g16_14 4) ([a,b,c]:List HairHorse) 0 (([],[]):List Int×List HairHorse)=some (LT 3 4,keepL [a,b,c] (LT 3 4)):=by kernel_rfl
theorem kl3_4 (a b c:HairHorse):(keepL [a,b,c] (LT 3 4)).length+(LT 3 4).length=3:=by kernel_rfl
theorem ks3_5 (a b c:HairHorse):eachS (g16_14 5) ([a,b,c]:List HairHorse) 0 (([],[]):List Int×List HairHorse)=some (LT 3 5,keepL [a,b,c] (LT 3 5)):=by kernel_rfl
theorem kl3_5 (a b c:HairHorse):(keepL [a,b,c] (LT 3 5)).length+(LT 3 5).length=3:=by kernel_rfl
theorem ks3_6 (a b c:HairHorse):eachS (g16_14 6) ([a,b,c]:List HairHorse) 0 (([],[]):List Int×List HairHorse)=some (LT 3 6,keepL [a,b,c] (LT 3 6)):=by kernel_rfl
theorem kl3_6 (a b c:HairHorse):(keepL [a,b,c] (LT 3 6)).length+(LT 3 6).length=3:=by kernel_rfl
theorem ks3_7 (a b c:HairHorse):eachS (g16_14 7) ([a,b,c]:List HairHorse) 0 (([],[]):List Int×List HairHorse)=some (LT 3 7,keepL [a,b,c] (LT 3 7)):=by kernel_rfl
theorem kl3_7 (a b c:HairHorse):(keepL [a,b,c] (LT 3 7)).length+(LT 3 7).length=3:=by kernel_rfl
theorem ks {xs:List HairHorse} (hl:xs.length≤3) {s:Nat} (hs:s<2 ^ xs.length):eachS (g16_14 (s:Int)) xs 0 (([],[]):List Int×List HairHorse)=some (LT xs.length s,keepL xs (LT xs.length s)):=by
 match xs,hl,s,hs with
 | [],_,0,_=>exact ks0_0
 | [],_,s+1,hs=>exact absurd hs (by simp)
 | [a],_,0,_=>exact ks1_0 a
 | [a],_,1,_=>exact ks1_1 a
 | [a],_,s+2,hs=>exact absurd hs (by simp)
 | [a,b],_,0,_=>exact ks2_0 a b
 | [a,b],_,1,_=>exact ks2_1 a b
 | [a,b],_,2,_=>exact ks2_2 a b
 | [a,b],_,3,_=>exact ks2_3 a b
 | [a,b],_,s+4,hs=>exact absurd hs (by simp)
 | [a,b,c],_,0,_=>exact ks3_0 a b c
 | [a,b,c],_,1,_=>exact ks3_1 a b c
 | [a,b,c],_,2,_=>exact ks3_2 a b c
 | [a,b,c],_,3,_=>exact ks3_3 a b c
 | [a,b,c],_,4,_=>exact ks3_4 a b c
 | [a,b,c],_,5,_=>exact ks3_5 a b c
 | [a,b,c],_,6,_=>exact ks3_6 a b c
 | [a,b,c],_,7,_=>exact ks3_7 a b c
 | [a,b,c],_,s+8,hs=>exact absurd hs (by simp)
 | _::_::_::_::_,hl,_,_=>exact absurd hl (by simp)
theorem kl {xs:List HairHorse} (hl:xs.length≤3) {s:Nat} (hs:s<2 ^ xs.length):(keepL xs (LT xs.length s)).length+(LT xs.length s).length=xs.length:=by
 match xs,hl,s,hs with
 | [],_,0,_=>exact kl0_0
 | [],_,s+1,hs=>exact absurd hs (by simp)
 | [a],_,0,_=>exact kl1_0 a
 | [a],_,1,_=>exact kl1_1 a
 | [a],_,s+2,hs=>exact absurd hs (by simp)
 | [a,b],_,0,_=>exact kl2_0 a b
 | [a,b],_,1,_=>exact kl2_1 a b
 | [a,b],_,2,_=>exact kl2_2 a b
 | [a,b],_,3,_=>exact kl2_3 a b
 | [a,b],_,s+4,hs=>exact absurd hs (by simp)
 | [a,b,c],_,0,_=>exact kl3_0 a b c
 | [a,b,c],_,1,_=>exact kl3_1 a b c
 | [a,b,c],_,2,_=>exact kl3_2 a b c
 | [a,b,c],_,3,_=>exact kl3_3 a b c
 | [a,b,c],_,4,_=>exact kl3_4 a b c
 | [a,b,c],_,5,_=>exact kl3_5 a b c
 | [a,b,c],_,6,_=>exact kl3_6 a b c
 | [a,b,c],_,7,_=>exact kl3_7 a b c
 | [a,b,c],_,s+8,hs=>exact absurd hs (by simp)
 | _::_::_::_::_,hl,_,_=>exact absurd hl (by simp)
def woS (b:HairBook) (s:Nat):HairBook:=⟨b.Hanks,keepL b.Horses (LT b.Horses.length s),b.Dark,b.Near,b.Match⟩
theorem keepL_mem {xs:List HairHorse} {l:List Int} {x:HairHorse} (h:x∈keepL xs l):x∈xs:=by
 unfold keepL at h
 rw [List.mem_map] at h
 obtain ⟨y,hy,rfl⟩:=h
 have hm:=(List.mem_filter.1 hy).1
 rw [List.mem_iff_getElem?] at hm
 obtain ⟨k,hk⟩:=hm
 rw [List.getElem?_zipIdx] at hk
 cases hx:xs[k]? with
 | none=>rw [hx] at hk;cases hk
 | some z=>
  rw [hx] at hk
  simp only [Option.map_some,Option.some.injEq] at hk
  rw [← hk]
  exact List.mem_of_getElem? hx
theorem keepL_nil (xs:List HairHorse):keepL xs []=xs:=by
 unfold keepL
 have:(xs.zipIdx.filter fun y=>!decide ((y.2:Int)∈([]:List Int)))=xs.zipIdx:=List.filter_eq_self.2 (fun y _=>by simp)
 rw [this]
 apply List.ext_getElem?
 intro k
 rw [List.getElem?_map,List.getElem?_zipIdx]
 cases xs[k]?<;>rfl
theorem keepL_len (xs:List HairHorse) (l:List Int):(keepL xs l).length≤xs.length:=by
 unfold keepL
 rw [List.length_map]
 exact Nat.le_trans (List.length_filter_le _ _) (by rw [List.length_zipIdx];exact Nat.le_refl _)
theorem okW {b:HairBook} (hok:okH b=true) (s:Nat):okH (woS b s)=true:=by
 have hl:=keepL_len b.Horses (LT b.Horses.length s)
 unfold okH at hok ⊢
 simp only [Bool.and_eq_true,decide_eq_true_eq,List.all_eq_true] at hok ⊢
 obtain ⟨⟨⟨⟨⟨⟨h1,h2⟩,h3⟩,h4⟩,h5⟩,h6⟩,h7⟩:=hok
 refine ⟨⟨⟨⟨⟨⟨h1,?_⟩,h3⟩,h4⟩,h5⟩,h6⟩,fun x hx=>h7 x (keepL_mem hx)⟩
 simp only [woS]
 omega
theorem wo0 {b:HairBook} (hl:b.Horses.length≤3):woS b 0=b:=by
 unfold woS
 rw [(fz0 hl).1,keepL_nil]
theorem served_none {b:HairBook} (ok:OkH b) (h:b.Horses.length=0):servedB b=true:=by
 rw [served_iff]
 refine ⟨[],planB_iff.2 ⟨by simp [h],by simp⟩,?_⟩
 have:b.Horses=[]:=List.length_eq_zero_iff.1 h
 have hf:=okP_nil (b:=b) (by_:=fun s=>s.Low) (fun x hx=>by have:=(ok.hanks x hx).w;omega)
 unfold okP at hf
 rw [Bool.and_eq_true] at hf
 unfold worksB dyeK
 rw [this]
 rw [show fitK b []=fitP b (fun s=>s.Low) [] from rfl,hf.1]
 rfl
theorem served_all {b:HairBook} (hok:okH b=true):servedB (woS b (2 ^ b.Horses.length - 1))=true:=by
 have ok:=okH_of hok
 have h3:=ok.l3
 have hp:=pow_pos' b.Horses.length
 refine served_none (okH_of (okW hok _)) ?_
 have:=kl h3 (s:=2 ^ b.Horses.length - 1) (by omega)
 rw [(fz0 h3).2.2.1] at this
 unfold woS
 simp only
 omega
structure LackIs (b:HairBook) (t:Nat):Prop where
 lt:t<2 ^ b.Horses.length
 sv:servedB (woS b t)=true
 le:∀ u,u<2 ^ b.Horses.length→servedB (woS b u)=true→rk b.Horses.length t≤rk b.Horses.length u
def LackInv (b:HairBook) (i:Int) (s:List Int×Bool):Prop:=(s=([],false)∧∀ u:Nat,(u:Int)<i→servedB (woS b u)=false) ∨
 ∃ t:Nat,s=(LT b.Horses.length t,true)∧t<2 ^ b.Horses.length∧servedB (woS b t)=true∧∀ u:Nat,(u:Int)<i→servedB (woS b u)=true→rk b.Horses.length t≤rk b.Horses.length u
theorem p29_8 {b:HairBook} (hok:okH b=true) {s:Nat} (hs:s<2 ^ b.Horses.length) {st:List Int×Bool} (hI:LackInv b s st):∃ st',g16_8 b (s:Int) st=some st'∧LackInv b ((s:Int)+1) st':=by
 have ok:=okH_of hok
 have h3:=ok.l3
 have okw:=okH_of (okW hok s)
 obtain ⟨mf,e80,hmf⟩:=p80 okw
 have hmk:HairBook.mk b.Hanks (keepL b.Horses (LT b.Horses.length s)) b.Dark b.Near b.Match=woS b s:=rfl
 rcases hI with ⟨rfl,hI⟩ | ⟨t,rfl,ht,hsv,hle⟩
 ·have he:g16_8 b (s:Int) ([],false)=some (bif servedB (woS b s) then (LT b.Horses.length s,true) else ([],false)):=by
   unfold g16_8
   rw [ks h3 hs]
   simp only [bsm,cond_false,hmk,e80,p84 okw hmf]
   cases servedB (woS b s)<;>rfl
  refine ⟨_,he,?_⟩
  cases hv:servedB (woS b s) with
  | true=>
   refine .inr ⟨s,rfl,hs,hv,fun u hu hsu=>?_⟩
   by_cases e:u=s
   ·subst e;exact Nat.le_refl _
   ·have:=hI u (by omega);rw [hsu] at this;cases this
  | false=>
   refine .inl ⟨rfl,fun u hu=>?_⟩
   by_cases e:u=s
   ·subst e;exact hv
   ·exact hI u (by omega)
 ·have hc:=fC h3 hs ht
  have he:g16_8 b (s:Int) (LT b.Horses.length t,true)=some (bif decide (rk b.Horses.length s<rk b.Horses.length t)&&servedB (woS b s) then (LT b.Horses.length s,true) else (LT b.Horses.length t,true)):=by
   unfold g16_8
   rw [ks h3 hs]
   simp only [bsm,cond_true]
   have key:∀ {X:Option Bool} {F:Bool→Option (List Int×Bool)} {v:Bool},X=some v→X.bind F=F v:=by
    intro X F v h;rw [h];rfl
   refine Eq.trans (key hc) ?_
   cases decide (rk b.Horses.length s<rk b.Horses.length t) with
   | false=>rfl
   | true=>
    simp only [Bool.not_true,cond_false,hmk,e80,bsm,p84 okw hmf,Bool.true_and]
    cases servedB (woS b s)<;>rfl
  refine ⟨_,he,?_⟩
  by_cases h1:rk b.Horses.length s<rk b.Horses.length t
  ·rw [decide_eq_true h1,Bool.true_and]
   cases hv:servedB (woS b s) with
   | true=>
    refine .inr ⟨s,rfl,hs,hv,fun u hu hsu=>?_⟩
    by_cases e:u=s
    ·subst e;exact Nat.le_refl _
    ·have:=hle u (by omega) hsu;omega
   | false=>
    refine .inr ⟨t,rfl,ht,hsv,fun u hu hsu=>?_⟩
    by_cases e:u=s
    ·subst e;rw [hv] at hsu;cases hsu
    ·exact hle u (by omega) hsu
  ·rw [decide_eq_false h1,Bool.false_and]
   refine .inr ⟨t,rfl,ht,hsv,fun u hu hsu=>?_⟩
   by_cases e:u=s
   ·subst e;omega
   ·exact hle u (by omega) hsu
theorem p29 {b:HairBook} (hok:okH b=true):∃ t,LackIs b t∧g16 b=some (LT b.Horses.length t,0):=by
 have ok:=okH_of hok
 have h3:=ok.l3
 have hp:=pow_pos' b.Horses.length
 have hp8:=pow_le' h3
 obtain ⟨st,e,hI⟩:=forS_inv (f:=g16_8 b) (LackInv b) (2 ^ b.Horses.length) 0 ([],false) (.inl ⟨rfl,fun u hu=>by omega⟩) (fun j s h1 h2 hs=>by
  obtain ⟨k,rfl⟩:∃ k:Nat,j=(k:Int):=⟨j.toNat,by omega⟩
  exact p29_8 hok (by omega) hs)
 rcases hI with ⟨rfl,hI⟩ | ⟨t,rfl,ht,hsv,hle⟩
 ·have:=hI (2 ^ b.Horses.length - 1) (by omega)
  rw [served_all hok] at this;cases this
 ·refine ⟨t,⟨ht,hsv,fun u hu h=>hle u (by omega) h⟩,?_⟩
  unfold g16
  rw [p17,hok,bsm]
  simp only [cond_true,ne_eq,not_true_eq_false,decide_false,cond_false]
  rw [must_t (by rw [decide_eq_true_eq];omega),bsm,fS h3,must_t (by rw [decide_eq_true_eq];omega),bsm,show (((2 ^ b.Horses.length:Nat):Int) - 0).toNat=2 ^ b.Horses.length by omega,e,bsm]
  simp only [slcL_all,bsm]
end Go.Proofs.YthcpnbeikdhlkaaDoor
namespace Go.Proofs.YthcpnbeikdhlkaaDoor
open Go Go.Abs Go.Proofs.Tt
theorem cutS_horses {b x:HairBook} (h:x.Horses=b.Horses):∀ (ps:List Int) (v:Nat) (k:Int),cutS x ps v k=cutS b ps v k
 | [],v,k=>rfl
 | p::ps,v,k=>by
  rw [cutS,cutS,cutS_horses h ps]
  unfold partN
  rw [h]
theorem dyesF_of {b:HairBook} {want mane tail m t:Int} (m1:0≤m) (m2:m≤b.Dark) (t1:0≤t) (t2:t≤b.Dark) (h:mB b want mane tail m t=true):(dyesF b want mane tail).isSome=true:=by
 unfold dyesF
 rw [Option.isSome_map]
 cases hf:firstI (fun m=>(firstI (fun t=>mB b want mane tail m t) (b.Dark+1).toNat 0).isSome) (b.Dark+1).toNat 0 with
 | some m=>rfl
 | none=>
  have h1:=firstI_none.1 hf m m1 (by omega)
  cases hg:firstI (fun t=>mB b want mane tail m t) (b.Dark+1).toNat 0 with
  | some t=>rw [hg] at h1;cases h1
  | none=>
   have h2:=firstI_none.1 hg t t1 (by omega)
   rw [h] at h2;cases h2
theorem dyeK_rel {b x:HairBook} (hor:x.Horses=b.Horses) (near:x.Near=b.Near) (mat:x.Match=b.Match) (dark:b.Dark≤x.Dark) {q:List Int} (hl:q.length=2*b.Horses.length) (hs:∀ n,n∈q→∀ j,(shOf b n j).Low≤(shOf x n j).Low∧(shOf x n j).High≤(shOf b n j).High) (h:dyeK b q=true):dyeK x q=true:=by
 unfold dyeK at h ⊢
 rw [hor]
 rw [List.all_eq_true] at h ⊢
 intro y hy
 have hd:=h y hy
 have hlt:y.2<b.Horses.length:=by
  rw [List.mem_iff_getElem?] at hy
  obtain ⟨j,hj⟩:=hy
  rw [List.getElem?_zipIdx] at hj
  cases hx:b.Horses[j]? with
  | none=>rw [hx] at hj;cases hj
  | some z=>
   rw [hx] at hj
   simp only [Option.map_some,Option.some.injEq,Nat.zero_add] at hj
   subst hj
   exact (List.getElem?_eq_some_iff.1 hx).1
 have i1:2*y.2<q.length:=by omega
 have i2:2*y.2+1<q.length:=by omega
 rw [List.getElem?_eq_getElem i1,List.getElem?_eq_getElem i2,Option.getD_some,Option.getD_some] at hd ⊢
 have s1:=hs _ (List.getElem_mem i1)
 have s2:=hs _ (List.getElem_mem i2)
 obtain ⟨d,hd⟩:=Option.isSome_iff_exists.1 hd
 obtain ⟨d1,d2,d3,d4,d5⟩:=dyesF_some hd
 refine dyesF_of d1 (by omega) d3 (by omega) ?_
 have a1:=s1 d.1
 have a2:=s2 d.2
 unfold mB nearB at d5 ⊢
 rw [near,mat]
 by_cases e:q[2*y.2]=q[2*y.2+1]
 ·rw [decide_eq_true e] at d5 ⊢
  simp only [cond_true,Bool.and_eq_true,decide_eq_true_eq] at d5 ⊢
  omega
 ·rw [decide_eq_false e] at d5 ⊢
  simp only [cond_false,Bool.and_eq_true,decide_eq_true_eq] at d5 ⊢
  omega
def hasP (b:HairBook) (by_:Span→Int):Bool:=!(plansL b by_).isEmpty
theorem mem_plansG {b:HairBook} {by_:Span→Int} {p:List Int}:p∈plansL b by_↔planB b p=true∧fitP b by_ p=true∧dyeK b p=true:=by
 unfold plansL
 rw [List.mem_filter,mem_allP]
 constructor
 ·rintro ⟨h1,h2⟩
  unfold okP at h2
  rw [dyeQ_full (planB_iff.1 h1).1,Bool.and_eq_true] at h2
  exact ⟨h1,h2⟩
 ·rintro ⟨h1,h2⟩
  refine ⟨h1,?_⟩
  unfold okP
  rw [dyeQ_full (planB_iff.1 h1).1,Bool.and_eq_true]
  exact h2
theorem has_iff {b:HairBook} {by_:Span→Int}:hasP b by_=true↔∃ q,planB b q=true∧fitP b by_ q=true∧dyeK b q=true:=by
 unfold hasP
 constructor
 ·intro h
  cases hl:plansL b by_ with
  | nil=>rw [hl] at h;cases h
  | cons p l=>exact ⟨p,mem_plansG.1 (by rw [hl];simp)⟩
 ·rintro ⟨p,hp⟩
  cases hl:plansL b by_ with
  | nil=>have:=mem_plansG.2 hp;rw [hl] at this;cases this
  | cons q l=>rfl
structure SubH (b x:HairBook):Prop where
 hor:x.Horses=b.Horses
 near:x.Near=b.Near
 mat:x.Match=b.Match
 dark:b.Dark≤x.Dark
 hank:∀ (k:Nat) h,b.Hanks[k]?=some h→∃ h',x.Hanks[k]?=some h'∧h.Shade.Low≤h'.Shade.Low∧h'.Shade.High≤h.Shade.High
theorem SubH.planH {b x:HairBook} (S:SubH b x) {q:List Int} (h:planB b q=true):planB x q=true:=by
 rw [planB_iff] at h ⊢
 refine ⟨by rw [S.hor];exact h.1,fun n hn=>?_⟩
 have hb:=h.2 n hn
 obtain ⟨h',e,_⟩:=S.hank n.toNat _ (List.getElem?_eq_getElem (show n.toNat<b.Hanks.length by omega))
 have:=(List.getElem?_eq_some_iff.1 e).1
 omega
theorem SubH.dyeH {b x:HairBook} (S:SubH b x) {q:List Int} (hp:planB b q=true) (h:dyeK b q=true):dyeK x q=true:=by
 obtain ⟨h1,h2⟩:=planB_iff.1 hp
 refine dyeK_rel S.hor S.near S.mat S.dark h1 (fun n hn j=>?_) h
 have hb:=h2 n hn
 have e0:=List.getElem?_eq_getElem (show n.toNat<b.Hanks.length by omega)
 obtain ⟨h',e,l1,l2⟩:=S.hank n.toNat _ e0
 unfold shOf
 rw [e0,e]
 simp only
 omega
def wB (b:HairBook) (w s:Int):HairBook:=⟨b.Hanks++[⟨⟨w,w⟩,⟨s,s⟩⟩],b.Horses,b.Dark,b.Near,b.Match⟩
theorem wB_get {b:HairBook} {w s:Int} {k:Nat} {h:HairHank} (e:(wB b w s).Hanks[k]?=some h):(b.Hanks[k]?=some h∧k<b.Hanks.length)∨(k=b.Hanks.length∧h=⟨⟨w,w⟩,⟨s,s⟩⟩):=by
 unfold wB at e
 simp only at e
 by_cases hk:k<b.Hanks.length
 ·rw [List.getElem?_append_left hk] at e
  exact .inl ⟨e,hk⟩
 ·rw [List.getElem?_append_right (by omega)] at e
  have:k - b.Hanks.length=0:=by
   have:=(List.getElem?_eq_some_iff.1 e).1
   simp at this;omega
  rw [this] at e
  refine .inr ⟨by omega,?_⟩
  simpa using e.symm
theorem wB_at (b:HairBook) (w s:Int):(wB b w s).Hanks[b.Hanks.length]?=some ⟨⟨w,w⟩,⟨s,s⟩⟩:=by
 unfold wB
 simp
theorem wB_lt {b:HairBook} (w s:Int) {k:Nat} (hk:k<b.Hanks.length):(wB b w s).Hanks[k]?=b.Hanks[k]?:=by
 unfold wB
 simp only
 rw [List.getElem?_append_left hk]
theorem wB_len (b:HairBook) (w s:Int):(wB b w s).Hanks.length=b.Hanks.length+1:=by
 unfold wB;simp
theorem wB_sub2 (b:HairBook) (w v s:Int):SubH (wB b w s) (wB b v s):=⟨rfl,rfl,rfl,Int.le_refl _,fun k h e=>by
 rcases wB_get e with ⟨e,hk⟩ | ⟨rfl,rfl⟩
 ·exact ⟨h,by rw [wB_lt v s hk];exact e,Int.le_refl _,Int.le_refl _⟩
 ·exact ⟨_,wB_at b v s,Int.le_refl _,Int.le_refl _⟩⟩
theorem okH_wB {b:HairBook} (hok:okH b=true) (hk:b.Hanks.length≤3) {w s:Int} (w1:1≤w) (w2:w≤60) (s1:0≤s) (s2:s≤20):okH (wB b w s)=true:=by
 unfold okH at hok ⊢
 simp only [Bool.and_eq_true,decide_eq_true_eq,List.all_eq_true] at hok ⊢
 obtain ⟨⟨⟨⟨⟨⟨h1,h2⟩,h3⟩,h4⟩,h5⟩,h6⟩,h7⟩:=hok
 refine ⟨⟨⟨⟨⟨⟨by rw [wB_len];omega,h2⟩,h3⟩,h4⟩,h5⟩,fun x hx=>?_⟩,h7⟩
 rcases List.mem_append.1 hx with hx | hx
 ·exact h6 x hx
 ·rw [List.mem_singleton] at hx
  subst hx
  have e1:wr (w - w)=0:=by rw [Int.sub_self];rfl
  have e2:wr (s - s)=0:=by rw [Int.sub_self];rfl
  simp only [okHank,okSpan,e1,e2,Bool.and_eq_true,decide_eq_true_eq]
  omega
theorem OkH_wB {b:HairBook} (hok:okH b=true) {w s:Int} (w1:1≤w) (w2:w≤60) (s1:0≤s) (s2:s≤20):OkH (wB b w s):=by
 have ok:=okH_of hok
 have h4:=okH_l4 hok
 refine ⟨by rw [wB_len];omega,ok.l3,ok.dark,ok.near,ok.mat,fun x hx=>?_,ok.horses⟩
 rcases List.mem_append.1 hx with hx | hx
 ·exact ok.hanks x hx
 ·rw [List.mem_singleton] at hx
  subst hx
  exact ⟨⟨w1,Int.le_refl _,w2⟩,s1,Int.le_refl _,s2⟩
theorem with_iff {b:HairBook} (ok:OkH b) {v s:Int} (h0:0≤v) (h60:v≤60):servedB (wB b v s)=true↔∃ q,q∈plansL (wB b 60 s) (·.Low)∧cutS (wB b 60 s) q 0 (b.Hanks.length:Int)≤v:=by
 constructor
 ·intro h
  obtain ⟨q,h1,h2,h3⟩:=has_iff.1 (show hasP (wB b v s) (fun s=>s.Low)=true from h)
  have hS:=wB_sub2 b v 60 s
  have hc:∀ k:Int,cutS (wB b 60 s) q 0 k=cutS (wB b v s) q 0 k:=fun k=>cutS_horses (b:=wB b v s) (x:=wB b 60 s) rfl q 0 k
  rw [fitP_iff] at h2
  have hK:=h2 b.Hanks.length _ (wB_at b v s)
  refine ⟨q,mem_plansG.2 ⟨hS.planH h1,fitP_iff.2 fun k x hx=>?_,hS.dyeH h1 h3⟩,by rw [hc];exact hK⟩
  rw [hc]
  rcases wB_get hx with ⟨hx,hk⟩ | ⟨rfl,rfl⟩
  ·exact h2 k x (by rw [wB_lt v s hk];exact hx)
  ·simp only at hK ⊢;omega
 ·rintro ⟨q,hq,hle⟩
  obtain ⟨h1,h2,h3⟩:=mem_plansG.1 hq
  have hS:=wB_sub2 b 60 v s
  have hc:∀ k:Int,cutS (wB b v s) q 0 k=cutS (wB b 60 s) q 0 k:=fun k=>cutS_horses (b:=wB b 60 s) (x:=wB b v s) rfl q 0 k
  rw [fitP_iff] at h2
  refine has_iff.2 ⟨q,hS.planH h1,fitP_iff.2 fun k x hx=>?_,hS.dyeH h1 h3⟩
  rw [hc]
  rcases wB_get hx with ⟨hx,hk⟩ | ⟨rfl,rfl⟩
  ·exact h2 k x (by rw [wB_lt 60 s hk];exact hx)
  ·exact hle
theorem with0_lt {b:HairBook} (ok:OkH b) {s:Int} {q:List Int} (q1:q.length=2*b.Horses.length) (q2:∀ n,n∈q→0≤n∧n<(b.Hanks.length:Int)+1) (hle:cutS b q 0 (b.Hanks.length:Int)≤0):∀ n,n∈q→0≤n∧n<b.Hanks.length:=fun n hn=>by
 have hb:=q2 n hn
 refine ⟨hb.1,?_⟩
 by_cases e:n=(b.Hanks.length:Int)
 ·have:=(cutS_pos ok (b.Hanks.length:Int) q 0 (by omega)).2 (by rw [← e];exact hn)
  omega
 ·omega
theorem with0 {b:HairBook} (ok:OkH b) {s:Int} (h:servedB (wB b 0 s)=true):servedB b=true:=by
 obtain ⟨q,hq,hle⟩:=(with_iff ok (Int.le_refl 0) (by omega)).1 h
 obtain ⟨h1,h2,h3⟩:=mem_plansG.1 hq
 obtain ⟨q1,q2⟩:=planB_iff.1 h1
 rw [cutS_horses (b:=b) (x:=wB b 60 s) rfl] at hle
 rw [wB_len] at q2
 rw [show (wB b 60 s).Horses=b.Horses from rfl] at q1
 have hlt:=with0_lt ok (s:=s) q1 (fun n hn=>by have:=q2 n hn;omega) hle
 rw [fitP_iff] at h2
 have hsh:∀ n,n∈q→∀ j,shOf (wB b 60 s) n j=shOf b n j:=fun n hn j=>by
  have hb:=hlt n hn
  unfold shOf
  rw [wB_lt 60 s (show n.toNat<b.Hanks.length by omega)]
 have hd:dyeK b q=true:=dyeK_rel (b:=wB b 60 s) (x:=b) rfl rfl rfl (Int.le_refl _) q1 (fun n hn j=>by
  rw [hsh n hn j];exact ⟨Int.le_refl _,Int.le_refl _⟩) h3
 have hf:fitP b (fun s=>s.Low) q=true:=fitP_iff.2 fun k x hx=>by
  have:=h2 k x (by rw [wB_lt 60 s (List.getElem?_eq_some_iff.1 hx).1];exact hx)
  rw [cutS_horses (b:=b) (x:=wB b 60 s) rfl] at this
  exact this
 exact has_iff.2 ⟨q,planB_iff.2 ⟨q1,hlt⟩,hf,hd⟩
def BuyIs (b:HairBook) (s:Int) (r:Int×Int):Prop:=(servedB b=true∧r=(0,0))∨(servedB b=false∧servedB (wB b 60 s)=false∧r=(0,4)) ∨
 ∃ w,1≤w∧w≤60∧servedB b=false∧r=(w,0)∧servedB (wB b w s)=true∧∀ v,0≤v→v<w→servedB (wB b v s)=false
theorem foldl_min {α:Type} (f:α→Int):∀ (l:List α) (n:Int),let m:=l.foldl (fun v q=>min v (f q)) n;m≤n∧(∀ q,q∈l→m≤f q)∧(m=n∨∃ q,q∈l∧m=f q)
 | [],n=>⟨Int.le_refl _,by simp,.inl rfl⟩
 | a::l,n=>by
  obtain ⟨h1,h2,h3⟩:=foldl_min f l (min n (f a))
  simp only [List.foldl_cons]
  refine ⟨by omega,fun q hq=>?_,?_⟩
  ·rcases List.mem_cons.1 hq with rfl | hq
   ·omega
   ·exact h2 q hq
  ·rcases h3 with h3 | ⟨q,hq,h3⟩
   ·by_cases e:n≤f a
    ·left;omega
    ·right;exact ⟨a,by simp,by omega⟩
   ·right;exact ⟨q,by simp [hq],h3⟩
theorem p31 {b:HairBook} (hok:okH b=true) {s:Int} (s1:0≤s) (s2:s≤20):∃ r,BuyIs b s r∧g8 b s=some r:=by
 have ok:=okH_of hok
 have h4:=okH_l4 hok
 obtain ⟨mf,e80,hmf⟩:=p80 ok
 have e55:g29 b s=some (.brk (b,mf,0)):=by
  unfold g29 g30
  rw [p17,hok,bsm]
  simp only [cond_true,ne_eq,not_true_eq_false,decide_false,cond_false,e80,bsm,p57,rg_iff.2 (show 0≤s∧s≤20 from ⟨s1,s2⟩),Bool.not_true]
 unfold g8
 rw [e55,bsm]
 simp only [ne_eq,not_true_eq_false,decide_false,cond_false,p84 ok hmf,bsm]
 cases hv:servedB b with
 | true=>exact ⟨(0,0),.inl ⟨hv,rfl⟩,rfl⟩
 | false=>
  have okU:=OkH_wB hok (w:=60) (by omega) (by omega) s1 s2
  obtain ⟨mU,e80U,hmU⟩:=p80 okU
  simp only [cond_false,slcL_all,bsm]
  rw [appL_ok (by rw [List.length_append,List.length_singleton];omega),bsm]
  rw [show HairBook.mk (b.Hanks++[HairHank.mk (Span.mk 60 60) (Span.mk s s)]) b.Horses b.Dark b.Near b.Match=wB b 60 s from rfl,e80U]
  simp only [g35,g34,bsm]
  rw [p111 _ okU hmU]
  have hr:=runY_fold (B:=fun q u=>g8_r22 (b.Hanks++[HairHank.mk (Span.mk 60 60) (Span.mk s s)]) (q,cutF (wB b 60 s) q) u) (X:=Unit) (fun v q=>min v (cutS (wB b 60 s) q 0 (b.Hanks.length:Int))) (plansL (wB b 60 s) (·.Low)) 61 (fun q u hq=>by
   unfold g8_r22
   simp only
   rw [List.length_append,List.length_singleton,wr_in (by omega) (by omega),show ((b.Hanks.length+1:Nat):Int) - 1=((b.Hanks.length:Nat):Int) by omega,ixN_nat (by omega)]
   rfl)
  have e:runY (fun q s_1=>rndC (g8_r22 (b.Hanks++[HairHank.mk (Span.mk 60 60) (Span.mk s s)])) (q,cutF (wB b 60 s) q) s_1) (plansL (wB b 60 s) (·.Low)) (.next 61)=runY (fun a s_1=>rndC (fun q u=>g8_r22 (b.Hanks++[HairHank.mk (Span.mk 60 60) (Span.mk s s)]) (q,cutF (wB b 60 s) q) u) a s_1) (plansL (wB b 60 s) (·.Low)) (.next 61):=by
   congr 1
  rw [e,hr]
  obtain ⟨m1,m2,m3⟩:=foldl_min (fun q=>cutS (wB b 60 s) q 0 (b.Hanks.length:Int)) (plansL (wB b 60 s) (·.Low)) 61
  generalize hn:(plansL (wB b 60 s) (·.Low)).foldl (fun v q=>min v (cutS (wB b 60 s) q 0 (b.Hanks.length:Int))) 61=n at m1 m2 m3
  simp only [Option.map_some,bsm]
  by_cases h60:60<n
  ·rw [decide_eq_true h60,cond_true]
   refine ⟨(0,4),.inr (.inl ⟨hv,?_,rfl⟩),rfl⟩
   cases hu:servedB (wB b 60 s) with
   | false=>rfl
   | true=>
    obtain ⟨q,hq,hle⟩:=(with_iff ok (by omega) (by omega)).1 hu
    have:=m2 q hq
    omega
  ·rw [decide_eq_false h60,cond_false]
   rcases m3 with m3 | ⟨q,hq,m3⟩
   ·omega
   ·have hc:=cutS_bd okU (b.Hanks.length:Int) q 0
    have hno:∀ v,0≤v→v<n→servedB (wB b v s)=false:=fun v v1 v2=>by
     cases hu:servedB (wB b v s) with
     | false=>rfl
     | true=>
      obtain ⟨q',hq',hle⟩:=(with_iff ok v1 (by omega)).1 hu
      have:=m2 q' hq'
      omega
    have hyes:servedB (wB b n s)=true:=(with_iff ok (by omega) (by omega)).2 ⟨q,hq,by omega⟩
    have hn1:1≤n:=by
     by_cases e:n=0
     ·rw [e] at hyes
      have:=with0 ok hyes
      rw [hv] at this;cases this
     ·omega
    exact ⟨(n,0),.inr (.inr ⟨n,hn1,by omega,hv,rfl,hyes,hno⟩),rfl⟩
end Go.Proofs.YthcpnbeikdhlkaaDoor
namespace Go.Proofs.YthcpnbeikdhlkaaDoor
open Go Go.Abs Go.Proofs.Tt
def okSt (s:Span):Bool:=rg s.Low 0 s.High&&decide (s.High≤40)&&decide (wr (s.High - s.Low)≤4)
def okNd (m:Int) (l:List Int):Bool:=decide ((l.length:Int)=m)&&l.all fun n=>rg n 0 9
def okHa (b:HarnessBook):Bool:=okH b.Hair&&rg (b.Stock.length:Int) 1 3&&decide ((b.Needs.length:Int)=(b.Hair.Horses.length:Int))&&rg b.Pack 1 12&&rg b.Bad 0 (wr (b.Pack - 1))&&b.Stock.all okSt&&b.Needs.all (okNd (b.Stock.length:Int))
theorem hb68 (n a c:Int):g54 n a c=some (rg n a c):=rfl
theorem hb18_16 (i:Int) (x:Span) (s:Bool):g24_16 i x s=some (s&&okSt x):=by
 simp only [g24_16,hb68,bsm,cs,okSt,Bool.cond_false_right,Bool.and_assoc]
theorem hb18_38 (i:Int) (x:Int) (s:Bool):g24_38 i x s=some (s&&rg x 0 9):=by
 simp only [g24_38,hb68,bsm,cs,Bool.cond_false_right]
theorem hb18_29 (b:HarnessBook) (i:Int) (x:List Int) (s:Bool):g24_29 b i x s=some (s&&okNd (b.Stock.length:Int) x):=by
 simp only [g24_29,bsm,cs,eachS_all hb18_38,okNd,Bool.cond_false_right,Bool.and_assoc]
theorem hb18 (b:HarnessBook):g24 b=some (bif okHa b then 0 else 100):=by
 unfold g24
 rw [p17,bsm]
 have e:decide ((bif okH b.Hair then (0:Int) else 60)=0)=okH b.Hair:=by cases okH b.Hair<;>rfl
 simp only [e,hb68,bsm,cs,Bool.cond_false_right,eachS_all hb18_16,eachS_all (hb18_29 b)]
 have:∀ x:Bool,(bif !x then (100:Int) else 0)=bif x then 0 else 100:=by intro x;cases x<;>rfl
 rw [this]
 simp only [okHa,Bool.and_assoc]
structure HaOk (b:HarnessBook):Prop where
 ok:okH b.Hair=true
 s1:1≤b.Stock.length
 s3:b.Stock.length≤3
 nl:b.Needs.length=b.Hair.Horses.length
 n3:b.Needs.length≤3
 pack:1≤b.Pack∧b.Pack≤12
 bad:0≤b.Bad∧b.Bad≤b.Pack - 1
 st:∀ s,s∈b.Stock→0≤s.Low∧s.Low≤s.High∧s.High≤40∧s.High - s.Low≤4
 nd:∀ l,l∈b.Needs→l.length=b.Stock.length∧∀ n,n∈l→0≤n∧n≤9
theorem haOk_of {b:HarnessBook} (h:okHa b=true):HaOk b:=by
 simp only [okHa,Bool.and_eq_true,rg_iff,decide_eq_true_eq,List.all_eq_true] at h
 obtain ⟨⟨⟨⟨⟨⟨h1,h2⟩,h3⟩,h4⟩,h5⟩,h6⟩,h7⟩:=h
 have h8:=(okH_of h1).l3
 rw [wr_in (by omega) (by omega)] at h5
 refine ⟨h1,by omega,by omega,by omega,by omega,h4,h5,fun s hs=>?_,fun l hl=>?_⟩
 ·have:=h6 s hs
  simp only [okSt,Bool.and_eq_true,rg_iff,decide_eq_true_eq] at this
  obtain ⟨⟨a1,a2⟩,a3⟩:=this
  rw [wr_in (by omega) (by omega)] at a3
  omega
 ·have:=h7 l hl
  simp only [okNd,Bool.and_eq_true,rg_iff,decide_eq_true_eq,List.all_eq_true] at this
  exact ⟨by omega,this.2⟩
theorem haOk_to {b:HarnessBook} (h:HaOk b):okHa b=true:=by
 have h8:=h.bad
 have h9:=h.pack
 simp only [okHa,Bool.and_eq_true,rg_iff,decide_eq_true_eq,List.all_eq_true]
 rw [wr_in (by omega) (by omega)]
 refine ⟨⟨⟨⟨⟨⟨h.ok,by have:=h.s1;have:=h.s3;omega⟩,by rw [h.nl]⟩,h.pack⟩,h.bad⟩,fun s hs=>?_⟩,fun l hl=>?_⟩
 ·have:=h.st s hs
  simp only [okSt,Bool.and_eq_true,rg_iff,decide_eq_true_eq]
  rw [wr_in (by omega) (by omega)]
  omega
 ·have:=h.nd l hl
  simp only [okNd,Bool.and_eq_true,rg_iff,decide_eq_true_eq,List.all_eq_true]
  exact ⟨by omega,this.2⟩
theorem q126_iff (x y:Harness_want):q124 x y=true↔x=y:=by
 cases x;cases y
 simp [q124]
def ndOf (b:HarnessBook) (h k:Int):Int:=match b.Needs[h.toNat]? with
 | some l=>(l[k.toNat]?).getD 0
 | none=>0
def NdK (b:HarnessBook) (h0 k0:Int) (m:List (Harness_want×Int)):Prop:=∀ h k,0≤h→mget q124 m ⟨h,k⟩=bif (decide (h<h0)&&decide (0≤k)&&decide (k<b.Stock.length))||(decide (h=h0)&&decide (0≤k)&&decide (k<k0)) then some (ndOf b h k) else none
theorem hb93_13 {b:HarnessBook} {h:Nat} {l:List Int} (hl:b.Needs[h]?=some l) {k:Nat} {n:Int} (hn:l[k]?=some n) {m:List (Harness_want×Int)} (hm:NdK b (h:Int) (k:Int) m):∃ m',g61_13 (h:Int) (k:Int) n m=some m'∧NdK b (h:Int) ((k+1:Nat):Int) m':=by
 have hnone:mget q124 m ⟨(h:Int),(k:Int)⟩=none:=by
  rw [hm _ _ (by omega)]
  have:((decide ((h:Int)<(h:Int))&&decide (0≤(k:Int))&&decide ((k:Int)<b.Stock.length))||(decide ((h:Int)=(h:Int))&&decide (0≤(k:Int))&&decide ((k:Int)<(k:Int))))=false:=by simp
  rw [this];rfl
 have hv:ndOf b (h:Int) (k:Int)=n:=by
  unfold ndOf
  rw [Int.toNat_natCast,hl]
  simp [hn]
 refine ⟨m++[(⟨(h:Int),(k:Int)⟩,n)],?_,fun h' k' h0=>?_⟩
 ·unfold g61_13 mput
  rw [hnone];rfl
 ·rw [mget_append]
  by_cases he:h'=(h:Int)∧k'=(k:Int)
  ·obtain ⟨rfl,rfl⟩:=he
   rw [hnone]
   have hq:q124 ⟨(h:Int),(k:Int)⟩ ⟨(h:Int),(k:Int)⟩=true:=(q126_iff _ _).2 rfl
   have ht:((decide ((h:Int)<(h:Int))&&decide (0≤(k:Int))&&decide ((k:Int)<b.Stock.length))||(decide ((h:Int)=(h:Int))&&decide (0≤(k:Int))&&decide ((k:Int)<((k+1:Nat):Int))))=true:=by
    simp;omega
   rw [ht,hv]
   simp only [hq,cond_true]
  ·have hq:q124 ⟨h',k'⟩ ⟨(h:Int),(k:Int)⟩=false:=by
    cases hc:q124 ⟨h',k'⟩ ⟨(h:Int),(k:Int)⟩ with
    | false=>rfl
    | true=>
     have:=(q126_iff _ _).1 hc
     injection this with e1 e2
     exact absurd ⟨e1,e2⟩ he
   rw [hm _ _ h0,hq]
   have:(decide (h'=(h:Int))&&decide (0≤k')&&decide (k'<(k:Int)))=(decide (h'=(h:Int))&&decide (0≤k')&&decide (k'<((k+1:Nat):Int))):=by
    rw [Bool.eq_iff_iff]
    simp only [Bool.and_eq_true,decide_eq_true_eq]
    constructor
    ·rintro ⟨⟨a1,a2⟩,a3⟩;exact ⟨⟨a1,a2⟩,by omega⟩
    ·rintro ⟨⟨a1,a2⟩,a3⟩
     refine ⟨⟨a1,a2⟩,?_⟩
     by_cases e:k'=(k:Int)
     ·exact absurd ⟨a1,e⟩ he
     ·omega
   rw [this]
   cases (decide (h'<(h:Int))&&decide (0≤k')&&decide (k'<b.Stock.length))||(decide (h'=(h:Int))&&decide (0≤k')&&decide (k'<((k+1:Nat):Int)))<;>rfl
def NdOk (b:HarnessBook) (m:List (Harness_want×Int)):Prop:=∀ (h k:Nat),h<b.Needs.length→k<b.Stock.length→mget q124 m ⟨(h:Int),(k:Int)⟩=some (ndOf b h k)
def baldL (b:HarnessBook):List Int:=((g16 b.Hair).map (·.1)).getD []
theorem bald_eq {b:HarnessBook} (ok:HaOk b):g16 b.Hair=some (baldL b,0):=by
 obtain ⟨t,_,e⟩:=p29 ok.ok
 unfold baldL
 rw [e];rfl
theorem hb93 {b:HarnessBook} (ok:HaOk b):∃ m,g61 b=some (b,baldL b,m)∧NdOk b m:=by
 have h0:mput q124 ([]:List (Harness_want×Int)) (Harness_want.mk (-1) (-1)) 0=some [(Harness_want.mk (-1) (-1),0)]:=rfl
 obtain ⟨m,em,hm⟩:=eachS_inv (f:=g61_7) (fun h m=>NdK b (h:Int) 0 m) b.Needs 0 [(Harness_want.mk (-1) (-1),0)] (fun h k hh=>by
  have:((decide (h<((0:Nat):Int))&&decide (0≤k)&&decide (k<b.Stock.length))||(decide (h=((0:Nat):Int))&&decide (0≤k)&&decide (k<0)))=false:=by
   rw [Bool.eq_false_iff]
   intro hc
   simp only [Bool.or_eq_true,Bool.and_eq_true,decide_eq_true_eq] at hc
   omega
  rw [this]
  have hq:q124 ⟨h,k⟩ ⟨-1,-1⟩=false:=by
   cases hc:q124 ⟨h,k⟩ ⟨-1,-1⟩ with
   | false=>rfl
   | true=>
    have:=(q126_iff _ _).1 hc
    injection this with e1 e2
    omega
  simp only [mget,mfd,hq,cond_false];rfl) (fun h l m hk hx hm=>by
  rw [Nat.sub_zero] at hx
  obtain ⟨m',e',h'⟩:=eachS_inv (f:=g61_13 (h:Int)) (fun k m=>NdK b (h:Int) (k:Int) m) l 0 m hm (fun k n s k1 k2 hs=>hb93_13 hx (by rwa [Nat.sub_zero] at k2) hs)
  refine ⟨m',by unfold g61_7;rw [show (0:Int)=((0:Nat):Int) from rfl,e',bsm],fun h2 k2 hh=>?_⟩
  rw [h' _ _ hh]
  congr 1
  have:=(ok.nd l (List.mem_of_getElem? hx)).1
  rw [Bool.eq_iff_iff]
  simp only [Bool.or_eq_true,Bool.and_eq_true,decide_eq_true_eq]
  omega)
 refine ⟨m,?_,fun h k h1 h2=>?_⟩
 ·unfold g61
  rw [h0,bsm,bald_eq ok,bsm]
  simp only
  rw [show ((0:Nat):Int)=0 from rfl] at em
  rw [em,bsm]
 ·rw [hm _ _ (by omega)]
  have:((decide ((h:Int)<((0+b.Needs.length:Nat):Int))&&decide (0≤(k:Int))&&decide ((k:Int)<b.Stock.length))||(decide ((h:Int)=((0+b.Needs.length:Nat):Int))&&decide (0≤(k:Int))&&decide ((k:Int)<0)))=true:=by
   simp only [Bool.or_eq_true,Bool.and_eq_true,decide_eq_true_eq]
   omega
  rw [this];rfl
theorem hb59 {b:HarnessBook} (ok:HaOk b):∃ m,g37 b true=some (.brk (b,baldL b,m,0))∧NdOk b m:=by
 obtain ⟨m,e,h⟩:=hb93 ok
 refine ⟨m,?_,h⟩
 unfold g37
 rw [hb18,haOk_to ok,bsm,e]
 rfl
end Go.Proofs.YthcpnbeikdhlkaaDoor
namespace Go.Proofs.YthcpnbeikdhlkaaDoor
open Go Go.Abs Go.Proofs.Tt
theorem hb108_loop (v:Int):∀ (l:List Int) (i:Int),0≤i→∃ c,eachC (g62_3 v) l i ()=some c∧((v∈l∧∃ j,c=.brk j∧0≤j)∨(¬ v∈l∧c=.next ()))
 | [],i,h=>⟨_,rfl,.inr ⟨by simp,rfl⟩⟩
 | x::l,i,h=>by
  rw [eachC]
  by_cases e:v=x
  ·refine ⟨.brk i,?_,.inl ⟨by simp [e],i,rfl,h⟩⟩
   simp [g62_3,e,bsm]
  ·obtain ⟨c,h1,h2⟩:=hb108_loop v l (i+1) (by omega)
   refine ⟨c,?_,?_⟩
   ·simpa [g62_3,e,bsm] using h1
   ·have:v∈x::l↔v∈l:=by simp [e]
    rw [this];exact h2
theorem hb89 (l:List Int) (v:Int):g44 l v=some (decide (v∈l)):=by
 obtain ⟨c,h1,h2⟩:=hb108_loop v l 0 (by omega)
 unfold g44 g62
 rw [h1]
 rcases h2 with ⟨h2,j,rfl,h3⟩ | ⟨h2,rfl⟩
 ·show some (decide (0≤j))=_
  rw [decide_eq_true h3,decide_eq_true h2]
 ·show some (decide (0≤(-1:Int)))=_
  rw [decide_eq_false h2];rfl
theorem hb102 (b:HarnessBook) (bald:List Int) (m:List (Harness_want×Int)) (h:Int):g67 b bald m h=some (!decide (h∈bald)):=by
 unfold g67
 rw [hb89];rfl
theorem aset_g (w:Nat→Int) (j k:Nat) (x:Int):aset w j x k=if k=j then x else w k:=by
 unfold aset
 by_cases h:k=j
 ·subst h;simp
 ·have:Nat.beq k j=false:=by
   cases hb:Nat.beq k j with
   | true=>exact absurd (Nat.eq_of_beq_eq_true hb) h
   | false=>rfl
  rw [this,if_neg h];rfl
theorem hb103 {b:HarnessBook} (ok:HaOk b) {m:List (Harness_want×Int)} (hm:NdOk b m) (bald:List Int) {h:Nat} (hh:h<b.Needs.length) :
  ∃ w,g68 b bald m (h:Int)=some w∧∀ k:Nat,w k=if k<b.Stock.length then ndOf b h k else 0:=by
 have hs:=ok.s3
 obtain ⟨w,e,hw⟩:=eachS_inv (f:=g68_5 m (h:Int)) (fun n w=>∀ k:Nat,w k=if k<n then ndOf b h k else 0) b.Stock 0 (arrL [0,0,0]) (fun k=>by
  rw [if_neg (by omega)]
  unfold arrL
  match k with
  | 0=>rfl
  | 1=>rfl
  | 2=>rfl
  | k+3=>rfl) (fun j s w hj hx hw=>by
  rw [Nat.sub_zero] at hx
  have hlt:j<b.Stock.length:=(List.getElem?_eq_some_iff.1 hx).1
  refine ⟨aset w j (ndOf b h j),?_,fun k=>?_⟩
  ·unfold g68_5
   have:((h:Int)==-1)=false:=by
    rw [beq_eq_false_iff_ne];omega
   rw [this,ixN_nat (by omega),hm h j hh hlt]
   rfl
  ·rw [aset_g,hw]
   by_cases e:k=j
   ·subst e;rw [if_pos rfl,if_pos (by omega)]
   ·rw [if_neg e]
    by_cases e2:k<j
    ·rw [if_pos e2,if_pos (by omega)]
    ·rw [if_neg e2,if_neg (by omega)])
 refine ⟨w,?_,fun k=>?_⟩
 ·unfold g68 g66
  rw [bsm]
  rw [show ((0:Nat):Int)=0 from rfl] at e
  rw [e,bsm]
 ·rw [hw,Nat.zero_add]
def wlS (bald:List Int) (kind:Nat):List (List Int)→Nat→List Int
 | [],_=>[]
 | l::ls,h=>(bif decide ((h:Int)∈bald) then [] else [(l[kind]?).getD 0])++wlS bald kind ls (h+1)
def sumL:List Int→Int
 | []=>0
 | x::xs=>x+sumL xs
def want (b:HarnessBook) (kind:Nat):Int:=sumL (wlS (baldL b) kind b.Needs 0)
theorem wl_len (bald:List Int) (kind:Nat):∀ (ls:List (List Int)) (h:Nat),(wlS bald kind ls h).length≤ls.length
 | [],h=>Nat.le_refl _
 | l::ls,h=>by
  have:=wl_len bald kind ls (h+1)
  rw [wlS,List.length_append]
  cases decide ((h:Int)∈bald)<;>simp<;>omega
theorem wl_bd (bald:List Int) (kind:Nat):∀ (ls:List (List Int)) (h:Nat),(∀ l,l∈ls→∀ n,n∈l→0≤n∧n≤9)→∀ n,n∈wlS bald kind ls h→0≤n∧n≤9
 | [],h,hl,n,hn=>by cases hn
 | l::ls,h,hl,n,hn=>by
  rw [wlS,List.mem_append] at hn
  rcases hn with hn | hn
  ·cases hc:decide ((h:Int)∈bald) with
   | true=>rw [hc] at hn;cases hn
   | false=>
    rw [hc] at hn
    simp only [cond_false,List.mem_singleton] at hn
    subst hn
    cases he:l[kind]? with
    | none=>simp
    | some x=>exact hl l (by simp) x (List.mem_of_getElem? he)
  ·exact wl_bd bald kind ls (h+1) (fun l hl'=>hl l (by simp [hl'])) n hn
theorem sum_bd:∀ (l:List Int),(∀ n,n∈l→0≤n∧n≤9)→0≤sumL l∧sumL l≤9*l.length
 | [],h=>⟨Int.le_refl _,Int.le_refl _⟩
 | x::l,h=>by
  have h1:=h x (by simp)
  have h2:=sum_bd l (fun n hn=>h n (by simp [hn]))
  rw [sumL,List.length_cons]
  omega
theorem hb117_loop:∀ (l:List Int) (i s:Int),(∀ n,n∈l→0≤n∧n≤9)→0≤s→s+9*l.length≤1000→eachS g74_3 l i s=some (s+sumL l)
 | [],i,s,h,h1,h2=>by rw [eachS,sumL,Int.add_zero]
 | x::l,i,s,h,h1,h2=>by
  have hx:=h x (by simp)
  rw [List.length_cons] at h2
  rw [eachS,g74_3,bsm,wr_in (by omega) (by omega),hb117_loop l (i+1) (s+x) (fun n hn=>h n (by simp [hn])) (by omega) (by omega),sumL,Int.add_assoc]
theorem want_bd {b:HarnessBook} (ok:HaOk b) (k:Nat):0≤want b k∧want b k≤27:=by
 have h1:=sum_bd (wlS (baldL b) k b.Needs 0) (wl_bd _ _ _ _ (fun l hl=>(ok.nd l hl).2))
 have h2:=wl_len (baldL b) k b.Needs 0
 have h3:=ok.n3
 unfold want
 omega
theorem hb105_loop {b:HarnessBook} (ok:HaOk b) {m:List (Harness_want×Int)} (hm:NdOk b m) {k:Nat} (hk:k<b.Stock.length) (bald:List Int):∀ (ls:List (List Int)) (h:Nat) (acc:List Int),(∀ (j:Nat) l,ls[j]?=some l→b.Needs[h+j]?=some l)→acc.length+ls.length≤1000 →
  eachS (g69_3 b bald m (k:Int)) ls (h:Int) acc=some (acc++wlS bald k ls h)
 | [],h,acc,hl,hn=>by rw [eachS,wlS,List.append_nil]
 | l::ls,h,acc,hl,hn=>by
  rw [List.length_cons] at hn
  have hs:=ok.s3
  have hx:b.Needs[h]?=some l:=hl 0 l rfl
  have hlt:h<b.Needs.length:=(List.getElem?_eq_some_iff.1 hx).1
  have e:(h:Int)+1=((h+1:Nat):Int):=by omega
  have ih:=fun acc ha=>hb105_loop ok hm hk bald ls (h+1) acc (fun j x hj=>by
   have:=hl (j+1) x hj
   rwa [show h+(j+1)=h+1+j by omega] at this) ha
  rw [eachS,g69_3,hb102,bsm]
  cases hc:decide ((h:Int)∈bald) with
  | true=>
   simp only [Bool.not_true,cond_false,bsm]
   rw [e,ih acc (by omega),wlS,hc]
   rfl
  | false=>
   obtain ⟨w,ew,hw⟩:=hb103 ok hm bald hlt
   have hv:w k=(l[k]?).getD 0:=by
    rw [hw,if_pos hk]
    unfold ndOf
    rw [Int.toNat_natCast,hx]
    simp
   simp only [Bool.not_false,cond_true]
   rw [ew,bsm,ixN_nat (by omega),bsm,appL_ok (by rw [List.length_append,List.length_singleton];omega),bsm,bsm]
   rw [e,ih _ (by rw [List.length_append,List.length_singleton];omega),wlS,hc,hv]
   simp
theorem hb105 {b:HarnessBook} (ok:HaOk b) {m:List (Harness_want×Int)} (hm:NdOk b m) {k:Nat} (hk:k<b.Stock.length):g69 b (baldL b) m (k:Int)=some (want b k):=by
 have h3:=ok.n3
 have h1:=wl_len (baldL b) k b.Needs 0
 unfold g69
 have:=hb105_loop ok hm hk (baldL b) b.Needs 0 [] (fun j l h=>by rwa [Nat.zero_add]) (by simp;omega)
 rw [show ((0:Nat):Int)=0 from rfl] at this
 rw [this,bsm,List.nil_append,g74,hb117_loop _ _ _ (wl_bd _ _ _ _ (fun l hl=>(ok.nd l hl).2)) (Int.le_refl 0) (by omega),Int.zero_add]
 rfl
theorem ceil_spec {n g:Int} (hn:0≤n) (hg:1≤g):0≤(n+g - 1).tdiv g∧(n+g - 1).tdiv g≤n∧n≤(n+g - 1).tdiv g*g∧((n+g - 1).tdiv g - 1)*g≤n - 1:=by
 rw [Int.tdiv_eq_ediv_of_nonneg (by omega)]
 have h1:(n+g - 1) / g*g≤n+g - 1:=Int.ediv_mul_le _ (by omega)
 have h2:n+g - 1<((n+g - 1) / g+1)*g:=Int.lt_ediv_add_one_mul_self _ (by omega)
 have h0:0≤(n+g - 1) / g:=Int.ediv_nonneg (by omega) (by omega)
 generalize (n+g - 1) / g=q at *
 rw [Int.add_mul,Int.one_mul] at h2
 refine ⟨h0,?_,by omega,by rw [Int.sub_mul,Int.one_mul];omega⟩
 by_cases hq:q≤n
 ·exact hq
 ·exfalso
  have h3:(n+1)*g≤q*g:=Int.mul_le_mul_of_nonneg_right (by omega) (by omega)
  have h4:n*1≤n*g:=Int.mul_le_mul_of_nonneg_left (by omega) hn
  rw [Int.add_mul,Int.one_mul] at h3
  omega
def lowOf (b:HarnessBook) (k:Nat):Int:=match b.Stock[k]? with | some s=>s.Low | none=>0
def highOf (b:HarnessBook) (k:Nat):Int:=match b.Stock[k]? with | some s=>s.High | none=>0
theorem st_bd {b:HarnessBook} (ok:HaOk b) (k:Nat):0≤lowOf b k∧lowOf b k≤highOf b k∧highOf b k≤40:=by
 unfold lowOf highOf
 cases h:b.Stock[k]? with
 | none=>simp
 | some s=>have:=ok.st s (List.mem_of_getElem? h);simp only;omega
def packs (b:HarnessBook) (k:Nat):Int:=(max 0 (want b k - lowOf b k)+(b.Pack - b.Bad) - 1).tdiv (b.Pack - b.Bad)
theorem packs_spec {b:HarnessBook} (ok:HaOk b) (k:Nat):0≤packs b k∧packs b k≤27∧max 0 (want b k - lowOf b k)≤packs b k*(b.Pack - b.Bad)∧(packs b k - 1)*(b.Pack - b.Bad)≤max 0 (want b k - lowOf b k) - 1:=by
 have h1:=want_bd ok k
 have h2:=st_bd ok k
 have h3:=ok.pack
 have h4:=ok.bad
 obtain ⟨a,c,d,e⟩:=ceil_spec (n:=max 0 (want b k - lowOf b k)) (g:=b.Pack - b.Bad) (by omega) (by omega)
 exact ⟨a,by unfold packs;omega,d,e⟩
theorem hb77a {b:HarnessBook} (ok:HaOk b) {m:List (Harness_want×Int)} (hm:NdOk b m) {k:Nat} (hk:k<b.Stock.length):g49 b (baldL b) m (k:Int)=some (max 0 (want b k - lowOf b k)):=by
 have h1:=want_bd ok k
 have h2:=st_bd ok k
 have h:b.Stock[k]?=some b.Stock[k]:=List.getElem?_eq_getElem hk
 unfold g49
 have el:b.Stock[k].Low=lowOf b k:=by unfold lowOf;rw [h]
 rw [hb105 ok hm hk,bsm,ixL_nat,h,bsm,g71,bsm,el,wr_in (by omega) (by omega)]
theorem hb82 {b:HarnessBook} (ok:HaOk b) {m:List (Harness_want×Int)} (hm:NdOk b m) {k:Nat} (hk:k<b.Stock.length):g38 b (baldL b) m (k:Int)=some (packs b k):=by
 have h1:=want_bd ok k
 have h2:=st_bd ok k
 have h3:=ok.pack
 have h4:=ok.bad
 have h5:=packs_spec ok k
 have e:wr (b.Pack - b.Bad)=b.Pack - b.Bad:=wr_in (by omega) (by omega)
 unfold g38 g51
 rw [bsm,hb77a ok hm hk,bsm,e,must_t (by simp;omega),bsm,wr_in (n:=max 0 (want b k - lowOf b k)+(b.Pack - b.Bad)) (by omega) (by omega),wr_in (n:=max 0 (want b k - lowOf b k)+(b.Pack - b.Bad) - 1) (by omega) (by omega)]
 rw [show wr ((max 0 (want b k - lowOf b k)+(b.Pack - b.Bad) - 1).tdiv (b.Pack - b.Bad))=packs b k from wr_in (by unfold packs at h5;omega) (by unfold packs at h5;omega)]
theorem hb27 {b:HarnessBook} (ok:HaOk b):∃ L,g10 b=some (L,0)∧L.length=b.Stock.length∧∀ k:Nat,k<b.Stock.length→L[k]?=some (packs b k):=by
 obtain ⟨m,e,hm⟩:=hb59 ok
 have hs:=ok.s3
 obtain ⟨L,eL,h1,h2⟩:=eachS_inv (f:=g10_11 b (baldL b) m) (fun n l=>l.length=n∧∀ k:Nat,k<n→l[k]?=some (packs b k)) b.Stock 0 [] ⟨rfl,fun k h=>by omega⟩ (fun j s l hj hx hl=>by
  rw [Nat.sub_zero] at hx
  have hlt:j<b.Stock.length:=(List.getElem?_eq_some_iff.1 hx).1
  refine ⟨l++[packs b j],?_,by rw [List.length_append,hl.1];rfl,fun k hk=>?_⟩
  ·unfold g10_11
   rw [hb82 ok hm hlt,bsm,appL_ok (by rw [List.length_append,List.length_singleton,hl.1];omega)]
   rfl
  ·by_cases e:k<j
   ·rw [List.getElem?_append_left (by omega)];exact hl.2 k e
   ·have:k=j:=by omega
    subst this
    rw [List.getElem?_append_right (by omega),hl.1,Nat.sub_self];rfl)
 refine ⟨L,?_,by omega,fun k hk=>h2 k (by omega)⟩
 unfold g10
 rw [e,bsm]
 simp only [ne_eq,not_true_eq_false,decide_false,cond_false]
 rw [must_t (by simp;omega),bsm]
 rw [show ((0:Nat):Int)=0 from rfl] at eL
 rw [eL,bsm,slcL_all,bsm]
theorem mul_bd {q g:Int} (h1:0≤q) (h2:q≤27) (h3:0≤g) (h4:g≤12):0≤q*g∧q*g≤324:=by
 have a:=Int.mul_nonneg h1 h3
 have b:q*g≤27*g:=Int.mul_le_mul_of_nonneg_right h2 h3
 omega
end Go.Proofs.YthcpnbeikdhlkaaDoor
namespace Go.Proofs.YthcpnbeikdhlkaaDoor
open Go Go.Abs Go.Proofs.Tt
theorem lack_uniq {b:HairBook} (h3:b.Horses.length≤3) {t u:Nat} (ht:LackIs b t) (hu:LackIs b u):t=u:=by
 have h1:=ht.le u hu.lt hu.sv
 have h2:=hu.le t ht.lt ht.sv
 exact fU h3 ht.lt hu.lt (by omega)
def packsL (b:HarnessBook):List Int:=(List.range b.Stock.length).map fun (k:Nat)=>packs b k
theorem packsL_get (b:HarnessBook) {k:Nat} (h:k<b.Stock.length):(packsL b)[k]?=some (packs b k):=by
 unfold packsL
 rw [List.getElem?_map,List.getElem?_range h];rfl
theorem hb27e {b:HarnessBook} (ok:HaOk b):g10 b=some (packsL b,0):=by
 obtain ⟨L,e,h1,h2⟩:=hb27 ok
 have:L=packsL b:=by
  refine List.ext_getElem? fun k=>?_
  by_cases hk:k<b.Stock.length
  ·rw [h2 k hk,packsL_get b hk]
  ·rw [List.getElem?_eq_none (by omega),List.getElem?_eq_none (by unfold packsL;simp;omega)]
 rw [e,this]
theorem hb17 (l:List Int) (hl:l.length<900):g15 l l=some true:=by
 have h0:∀ i,g15_4 l l (false,i)=some (.brk false):=fun i=>by simp [g15_4,bsm]
 have:=while_all (f:=g15_4 l l) (p:=fun _=>true) (xs:=l) hl h0 (by simp [g15_4,bsm]) (fun i x hx=>by
  have hi:i<l.length:=(List.getElem?_eq_some_iff.1 hx).1
  simp only [g15_4,cond_true,bsm,ixL_nat,hx]
  have:decide ((i:Int)<(l.length:Int))=true:=by simp [hi]
  rw [this,wr_nat (by omega)]
  simp) l.length 0 (by omega) 1000 (by omega)
 unfold g15
 rw [decide_eq_true rfl]
 rw [show ((0:Nat):Int)=0 from rfl] at this
 rw [this]
 simp [bsm]
end Go.Proofs.YthcpnbeikdhlkaaDoor
namespace Go.Proofs.YthcpnbeikdhlkaaDoor
open Go Go.Abs Go.Proofs.Tt
def arr (l:List Int):Nat→Int:=fun k=>(l[k]?).getD 0
theorem arr_nil:arrL [0,0,0]=arr []:=by
 funext k
 unfold arrL arr
 match k with
 | 0=>rfl
 | 1=>rfl
 | 2=>rfl
 | k+3=>rfl
theorem aset_arr (pre:List Int) (y:Int):aset (arr pre) pre.length y=arr (pre++[y]):=by
 funext k
 rw [aset_g]
 unfold arr
 by_cases h:k=pre.length
 ·subst h;rw [if_pos rfl,List.getElem?_append_right (Nat.le_refl _),Nat.sub_self];rfl
 ·rw [if_neg h]
  by_cases h2:k<pre.length
  ·rw [List.getElem?_append_left h2]
  ·rw [List.getElem?_eq_none (by omega),List.getElem?_eq_none (by simp;omega)]
theorem aset_arr2 (pre:List Int) (x y:Int):aset (arr (pre++[x])) pre.length y=arr (pre++[y]):=by
 funext k
 rw [← aset_arr,← aset_arr,aset_g,aset_g,aset_g]
 by_cases h:k=pre.length
 ·rw [if_pos h,if_pos h]
 ·rw [if_neg h,if_neg h,if_neg h]
def truL:List Span→List (List Int)
 | []=>[[]]
 | s::ss=>(List.range' 0 (s.High - s.Low+1).toNat).flatMap fun (n:Nat)=>(truL ss).map ((s.Low+(n:Int))::·)
theorem foldl_flatMap {α β S:Type} (f:S→β→S) (g:α→List β):∀ (l:List α) (s:S),(l.flatMap g).foldl f s=l.foldl (fun s a=>(g a).foldl f s) s
 | [],s=>rfl
 | a::l,s=>by rw [List.flatMap_cons,List.foldl_append,List.foldl_cons,foldl_flatMap f g l]
theorem hb100_for {S V:Type} (emb:V→S) (step:V→List Int→V) {rec_:(Nat→Int)→Int→HarnessBook→(List Int)→(List (Harness_want×Int))→S→Option (Bool×S)} {b:HarnessBook} {bald:List Int} {m:List (Harness_want×Int)} {s0:Span} {pre:List Int} (hp:pre.length<3) (hs:0≤s0.Low∧s0.Low≤s0.High∧s0.High≤40) (M:Int→List (List Int))
  (IH:∀ (y:Int) v,s0.Low≤y→y≤s0.High→rec_ (arr (pre++[y])) ((pre.length:Int)+1) b bald m (emb v)=some (true,emb ((M y).foldl step v))) :
  ∀ (n i:Nat) (v:V) (p:Nat→Int),(∀ y,aset p pre.length y=arr (pre++[y]))→i+n=(s0.High - s0.Low+1).toNat →
   ∃ p',forC (g65_10 rec_ (pre.length:Int) b bald m s0) n (i:Int) (emb v,p)=some (.next (emb ((List.range' i n).foldl (fun v (j:Nat)=>(M (s0.Low+(j:Int))).foldl step v) v),p'))
 | 0,i,v,p,hq,hn=>⟨p,rfl⟩
 | n+1,i,v,p,hq,hn=>by
  have e:(i:Int)+1=((i+1:Nat):Int):=by omega
  have hb:g65_10 rec_ (pre.length:Int) b bald m s0 (i:Int) (emb v,p)=some (.next (emb ((M (s0.Low+(i:Int))).foldl step v),arr (pre++[s0.Low+(i:Int)]))):=by
   unfold g65_10
   simp only
   rw [ixN_nat hp,bsm,wr_in (n:=s0.Low+(i:Int)) (by omega) (by omega),hq,wr_in (n:=(pre.length:Int)+1) (by omega) (by omega),IH _ _ (by omega) (by omega),bsm]
   rfl
  obtain ⟨p',h'⟩:=hb100_for emb step hp hs M IH n (i+1) ((M (s0.Low+(i:Int))).foldl step v) (arr (pre++[s0.Low+(i:Int)])) (fun y=>aset_arr2 pre _ y) (by omega)
  refine ⟨p',?_⟩
  rw [forC,hb,bsm]
  simp only
  rw [e,h',List.range'_succ,List.foldl_cons]
theorem hb100 {S V:Type} (c:(Nat→Int)→S→Option (S×Bool)) (emb:V→S) (step:V→List Int→V) {b:HarnessBook} (ok:HaOk b) (bald:List Int) (m:List (Harness_want×Int)):∀ (ss:List Span) (pre:List Int) (n:Nat) (v:V),pre.length+ss.length=b.Stock.length→(∀ (j:Nat) s,ss[j]?=some s→b.Stock[pre.length+j]?=some s)→ss.length+1≤n →
  (∀ t,t∈(truL ss).map (pre++·)→∀ v,c (arr t) (emb v)=some (emb (step v t),true))→g65 c n (arr pre) (pre.length:Int) b bald m (emb v)=some (true,emb (((truL ss).map (pre++·)).foldl step v))
 | ss,pre,0,v,hl,hs,hn,hc=>by omega
 | [],pre,n+1,v,hl,hs,hn,hc=>by
  rw [g65]
  rw [decide_eq_true (by simp only [List.length_nil] at hl;omega),cond_true,hc pre (by simp [truL]),bsm]
  simp [truL]
 | s0::ss,pre,n+1,v,hl,hs,hn,hc=>by
  rw [List.length_cons] at hl hn
  have h3:=ok.s3
  have hx:b.Stock[pre.length]?=some s0:=hs 0 s0 rfl
  have hb:=ok.st s0 (List.mem_of_getElem? hx)
  have hmem:∀ y,s0.Low≤y→y≤s0.High→∀ t,t∈(truL ss).map ((pre++[y])++·)→t∈(truL (s0::ss)).map (pre++·):=fun y h1 h2 t ht=>by
   obtain ⟨u,hu,rfl⟩:=List.mem_map.1 ht
   refine List.mem_map.2 ⟨y::u,?_,by simp⟩
   unfold truL
   refine List.mem_flatMap.2 ⟨(y - s0.Low).toNat,?_,?_⟩
   ·rw [List.mem_range'_1];omega
   ·rw [show s0.Low+((y - s0.Low).toNat:Int)=y by omega]
    exact List.mem_map.2 ⟨u,hu,rfl⟩
  have IH:=fun (y:Int) (v:V) (h1:s0.Low≤y) (h2:y≤s0.High)=>hb100 c emb step ok bald m ss (pre++[y]) n v (by simp;omega) (fun j s hj=>by
   have:=hs (j+1) s hj
   rw [List.length_append,List.length_singleton]
   rwa [show pre.length+1+j=pre.length+(j+1) by omega]) (by omega) (fun t ht=>hc t (hmem y h1 h2 t ht))
  obtain ⟨p',hf⟩:=hb100_for emb step (rec_:=g65 c n) (b:=b) (bald:=bald) (m:=m) (s0:=s0) (pre:=pre) (by omega) ⟨hb.1,hb.2.1,hb.2.2.1⟩ (fun y=>(truL ss).map ((pre++[y])++·)) (fun y v h1 h2=>by
   have:=IH y v h1 h2
   rw [List.length_append,List.length_singleton] at this
   rw [show ((pre.length:Int)+1)=((pre.length+1:Nat):Int) by omega]
   exact this) (s0.High - s0.Low+1).toNat 0 v (arr pre) (fun y=>aset_arr pre y) (by omega)
  rw [g65]
  rw [decide_eq_false (by omega),cond_false,ixL_nat,hx,bsm,wr_in (n:=s0.High - s0.Low) (by omega) (by omega),wr_in (n:=s0.High - s0.Low+1) (by omega) (by omega),Int.sub_zero]
  rw [show ((0:Nat):Int)=0 from rfl] at hf
  rw [hf]
  show some (true,_)=_
  congr 3
  rw [truL,List.map_flatMap,foldl_flatMap]
  congr 1
  funext v j
  rw [List.map_map]
  congr 2
  funext u
  simp
theorem hb99 {S V:Type} (c:(Nat→Int)→S→Option (S×Bool)) (emb:V→S) (step:V→List Int→V) {b:HarnessBook} (ok:HaOk b) (bald:List Int) (m:List (Harness_want×Int)) (v:V) (hc:∀ t,t∈truL b.Stock→∀ v,c (arr t) (emb v)=some (emb (step v t),true)):g64 c b bald m (emb v)=some (emb ((truL b.Stock).foldl step v)):=by
 have h3:=ok.s3
 have e:(truL b.Stock).map (([]:List Int)++·)=truL b.Stock:=by simp
 have:=hb100 c emb step ok bald m b.Stock [] 1000 v (by simp) (fun j s hj=>by simpa using hj) (by omega) (fun t ht=>by rw [e] at ht;exact hc t ht)
 rw [e] at this
 unfold g64 g66
 rw [bsm,arr_nil]
 rw [show (([]:List Int).length:Int)=0 from rfl] at this
 rw [this,bsm]
theorem truL_mem:∀ (ss:List Span) (t:List Int),t∈truL ss→t.length=ss.length∧∀ (k:Nat) s,ss[k]?=some s→∃ x,t[k]?=some x∧s.Low≤x∧x≤s.High
 | [],t,ht=>by
  simp only [truL,List.mem_singleton] at ht
  subst ht
  exact ⟨rfl,fun k s h=>by simp at h⟩
 | s0::ss,t,ht=>by
  unfold truL at ht
  obtain ⟨n,hn,ht⟩:=List.mem_flatMap.1 ht
  obtain ⟨u,hu,rfl⟩:=List.mem_map.1 ht
  obtain ⟨h1,h2⟩:=truL_mem ss u hu
  rw [List.mem_range'_1] at hn
  refine ⟨by simp [h1],fun k s hk=>?_⟩
  cases k with
  | zero=>
   simp at hk;subst hk
   exact ⟨s0.Low+(n:Int),rfl,by omega,by omega⟩
  | succ k=>simpa using h2 k s (by simpa using hk)
end Go.Proofs.YthcpnbeikdhlkaaDoor
namespace Go.Proofs.YthcpnbeikdhlkaaDoor
open Go Go.Abs Go.Proofs.Tt
def rowOf (b:HarnessBook) (h:Nat):List Int:=(b.Needs[h]?).getD []
def leAll (n:Nat) (row left:List Int):Bool:=(List.range' 0 n).all fun (k:Nat)=>decide (arr row k≤arr left k)
def midA (n j:Nat) (left row:List Int):List Int:=(List.range n).map fun (k:Nat)=>bif decide (k<j) then arr left k - arr row k else arr left k
def subA (n:Nat) (left row:List Int):List Int:=midA n n left row
def canS (b:HarnessBook) (left:List Int) (h:Nat):Bool:=!decide ((h:Int)∈baldL b)&&leAll b.Stock.length (rowOf b h) left
def dayStep (b:HarnessBook) (s:Int×List Int) (h:Nat):Int×List Int:=bif canS b s.2 h then (bOr s.1 (shl64 1 (h:Int)),subA b.Stock.length s.2 (rowOf b h)) else s
def dayS (b:HarnessBook) (order:List Nat) (t:List Int):Int:=(order.foldl (dayStep b) (0,t)).1
structure LeftOk (b:HarnessBook) (l:List Int):Prop where
 len:l.length=b.Stock.length
 bd:∀ k:Nat,0≤arr l k∧arr l k≤1000
theorem midA_len (n j:Nat) (left row:List Int):(midA n j left row).length=n:=by simp [midA]
theorem midA_get {n j k:Nat} (left row:List Int) (h:k<n):(midA n j left row)[k]?=some (bif decide (k<j) then arr left k - arr row k else arr left k):=by
 unfold midA
 rw [List.getElem?_map,List.getElem?_range h];rfl
theorem arr_mid {n j k:Nat} (left row:List Int) (h:k<n):arr (midA n j left row) k=bif decide (k<j) then arr left k - arr row k else arr left k:=by
 show ((midA n j left row)[k]?).getD 0=_
 rw [midA_get left row h];rfl
theorem arr_out {l:List Int} {k:Nat} (h:l.length≤k):arr l k=0:=by
 unfold arr
 rw [List.getElem?_eq_none h];rfl
theorem arr_in {l:List Int} {k:Nat} (h:k<l.length):l[k]?=some (arr l k):=by
 unfold arr
 rw [List.getElem?_eq_getElem h];rfl
theorem leAll_iff {n:Nat} {row left:List Int}:leAll n row left=true↔∀ k,k<n→arr row k≤arr left k:=by
 unfold leAll
 rw [List.all_eq_true]
 constructor
 ·intro h k hk
  have:=h k (by rw [List.mem_range'_1];omega)
  exact of_decide_eq_true this
 ·intro h k hk
  rw [List.mem_range'_1] at hk
  exact decide_eq_true (h k (by omega))
theorem row_bd {b:HarnessBook} (ok:HaOk b) {h:Nat} (hh:h<b.Needs.length):(rowOf b h).length=b.Stock.length∧∀ k,0≤arr (rowOf b h) k∧arr (rowOf b h) k≤9:=by
 have hx:b.Needs[h]?=some b.Needs[h]:=List.getElem?_eq_getElem hh
 have:=ok.nd _ (List.mem_of_getElem? hx)
 unfold rowOf
 rw [hx]
 refine ⟨this.1,fun k=>?_⟩
 show 0≤arr b.Needs[h] k∧arr b.Needs[h] k≤9
 by_cases hk:k<b.Needs[h].length
 ·have h2:=arr_in hk
  exact this.2 _ (List.mem_of_getElem? h2)
 ·rw [arr_out (by omega)];decide
theorem dayStep_ok {b:HarnessBook} (ok:HaOk b) {h:Nat} (hh:h<b.Needs.length) {s:Int×List Int} (hs:LeftOk b s.2):LeftOk b (dayStep b s h).2:=by
 unfold dayStep
 cases hc:canS b s.2 h with
 | false=>exact hs
 | true=>
  unfold canS at hc
  rw [Bool.and_eq_true] at hc
  have h1:=leAll_iff.1 hc.2
  have h2:=(row_bd ok hh).2
  refine ⟨midA_len _ _ _ _,fun k=>?_⟩
  show 0≤arr (subA b.Stock.length s.2 (rowOf b h)) k∧arr (subA b.Stock.length s.2 (rowOf b h)) k≤1000
  unfold subA
  by_cases hk:k<b.Stock.length
  ·rw [arr_mid _ _ hk,decide_eq_true hk,cond_true]
   have:=h1 k hk
   have:=h2 k
   have:=hs.bd k
   omega
  ·rw [arr_out (by rw [midA_len];omega)];decide
theorem tru_left {b:HarnessBook} (ok:HaOk b) {t:List Int} (ht:t∈truL b.Stock):LeftOk b t:=by
 obtain ⟨h1,h2⟩:=truL_mem _ _ ht
 refine ⟨h1,fun k=>?_⟩
 by_cases hk:k<b.Stock.length
 ·have hs:b.Stock[k]?=some b.Stock[k]:=List.getElem?_eq_getElem hk
  obtain ⟨x,hx,a1,a2⟩:=h2 k _ hs
  have:=ok.st _ (List.mem_of_getElem? hs)
  unfold arr
  rw [hx]
  show 0≤x∧x≤1000
  omega
 ·rw [arr_out (by omega)];decide
theorem eachC_idx {α R:Type} {f:Int→α→Unit→Option (Ctl Unit R)} (p:Nat→Bool) (r:R):∀ (xs:List α) (i:Nat),(∀ (j:Nat) x,i≤j→j<i+xs.length→f (j:Int) x ()=some (bif p j then .next () else .brk r))→eachC f xs (i:Int) ()=some (bif (List.range' i xs.length).all p then .next () else .brk r)
 | [],i,h=>rfl
 | x::xs,i,h=>by
  rw [eachC,h i x (Nat.le_refl _) (by simp),bsm,List.length_cons,List.range'_succ,List.all_cons]
  cases hp:p i with
  | false=>rfl
  | true=>
   simp only [cond_true,Bool.true_and]
   rw [show (i:Int)+1=((i+1:Nat):Int) by omega]
   exact eachC_idx p r xs (i+1) (fun j y hj hl=>h j y (by omega) (by rw [List.length_cons];omega))
theorem hb73_4 {b:HarnessBook} (ok:HaOk b) {m:List (Harness_want×Int)} (hm:NdOk b m) {h:Nat} (hh:h<b.Needs.length) {set_:Int} {left:List Int} (hl:LeftOk b left) (i:Int) :
  g47_4 b (baldL b) m i (h:Int) (set_,arr left)=some ((dayStep b (set_,left) h).1,arr (dayStep b (set_,left) h).2):=by
 have h3:=ok.s3
 have hrow:=row_bd ok hh
 unfold g47_4 dayStep canS
 simp only
 rw [hb102,bsm]
 cases hc:decide ((h:Int)∈baldL b) with
 | true=>rfl
 | false=>
  obtain ⟨w,ew,hw⟩:=hb103 ok hm (baldL b) hh
  have hwr:∀ k:Nat,w k=arr (rowOf b h) k:=fun k=>by
   rw [hw]
   have hx:b.Needs[h]?=some b.Needs[h]:=List.getElem?_eq_getElem hh
   by_cases hk:k<b.Stock.length
   ·rw [if_pos hk]
    unfold ndOf rowOf arr
    rw [Int.toNat_natCast,hx,Int.toNat_natCast]
    rfl
   ·rw [if_neg hk,arr_out (by omega)]
  have hwe:w=arr (rowOf b h):=funext hwr
  subst hwe
  simp only [Bool.not_false,Bool.not_true,cond_false,Bool.true_and]
  rw [ew,bsm]
  have hE:=eachC_idx (f:=g47_17 set_ (arr left) (arr (rowOf b h))) (fun k=>decide (arr (rowOf b h) k≤arr left k)) (set_,arr left) b.Stock 0 (fun j x hj hlt=>by
   have hj3:j<3:=by omega
   unfold g47_17 g66
   rw [bsm]
   have hn:=hrow.2 j
   have hb:=hl.bd j
   cases hz:(true != (((arr (rowOf b h) 0)==(arrL [0,0,0] 0))&&(((arr (rowOf b h) 1)==(arrL [0,0,0] 1))&&(((arr (rowOf b h) 2)==(arrL [0,0,0] 2))&&true)))) with
   | true=>
    simp only [cond_true]
    rw [ixN_nat hj3,bsm,bsm]
    by_cases hlt:arr left j<arr (rowOf b h) j
    ·rw [decide_eq_true hlt,decide_eq_false (by omega)];rfl
    ·rw [decide_eq_false hlt,decide_eq_true (by omega)];rfl
   | false=>
    simp only [cond_false]
    have h0:arr (rowOf b h) j=0:=by
     simp only [bne_eq_false_iff_eq,Bool.true_eq,Bool.and_eq_true,beq_iff_eq] at hz
     obtain ⟨z0,z1,z2,_⟩:=hz
     match j,hj3 with
     | 0,_=>exact z0
     | 1,_=>exact z1
     | 2,_=>exact z2
    rw [h0,decide_eq_true hb.1];rfl)
  rw [show ((0:Nat):Int)=0 from rfl] at hE
  rw [hE]
  show ((bindC (some (bif leAll b.Stock.length (rowOf b h) left then _ else _)) _).bind _)=_
  cases hle:leAll b.Stock.length (rowOf b h) left with
  | false=>rfl
  | true=>
   have hs:=leAll_iff.1 hle
   simp only [cond_true,bindC]
   obtain ⟨p5,e5,h5⟩:=eachS_inv (f:=g47_31 (arr (rowOf b h))) (fun n p=>∀ k:Nat,p k=if k<n then arr left k - arr (rowOf b h) k else arr left k) b.Stock 0 (arr left) (fun k=>by rw [if_neg (by omega)]) (fun j x p hj hx hp=>by
    rw [Nat.sub_zero] at hx
    have hlt:j<b.Stock.length:=(List.getElem?_eq_some_iff.1 hx).1
    have hb:=hl.bd j
    have hn:=hrow.2 j
    refine ⟨aset p j (arr left j - arr (rowOf b h) j),?_,fun k=>?_⟩
    ·unfold g47_31
     rw [ixN_nat (by omega),bsm,bsm,bsm,hp j,if_neg (by omega),wr_in (by omega) (by omega)]
    ·rw [aset_g,hp]
     by_cases e:k=j
     ·subst e;rw [if_pos rfl,if_pos (by omega)]
     ·rw [if_neg e]
      by_cases e2:k<j
      ·rw [if_pos e2,if_pos (by omega)]
      ·rw [if_neg e2,if_neg (by omega)])
   have hp5:p5=arr (subA b.Stock.length left (rowOf b h)):=by
    funext k
    rw [h5,Nat.zero_add]
    unfold subA
    by_cases hk:k<b.Stock.length
    ·rw [if_pos hk,arr_mid _ _ hk,decide_eq_true hk];rfl
    ·rw [if_neg hk,arr_out (l:=left) (by rw [hl.len];omega),arr_out (by rw [midA_len];omega)]
   rw [show ((0:Nat):Int)=0 from rfl] at e5
   rw [e5,bsm,must_t (by simp),bsm,bsm,hp5]
theorem hb73 {b:HarnessBook} (ok:HaOk b) {m:List (Harness_want×Int)} (hm:NdOk b m) {order:List Nat} (ho:∀ h,h∈order→h<b.Needs.length) {t:List Int} (ht:LeftOk b t) :
  g47 b (baldL b) m (arr t) (order.map fun (h:Nat)=>(h:Int))=some (dayS b order t):=by
 have key:∀ (os:List Nat) (i:Int) (s:Int×List Int),(∀ h,h∈os→h<b.Needs.length)→LeftOk b s.2→eachS (g47_4 b (baldL b) m) (os.map fun (h:Nat)=>(h:Int)) i (s.1,arr s.2)=some ((os.foldl (dayStep b) s).1,arr (os.foldl (dayStep b) s).2):=by
  intro os
  induction os with
  | nil=>intro i s h1 h2;rfl
  | cons h os ih=>
   intro i s h1 h2
   rw [List.map_cons,eachS,hb73_4 ok hm (h1 h (by simp)) h2 i,bsm,ih (i+1) (dayStep b s h) (fun x hx=>h1 x (by simp [hx])) (dayStep_ok ok (h1 h (by simp)) h2)]
   rfl
 unfold g47
 rw [key order 0 (0,t) ho ht]
 rfl
end Go.Proofs.YthcpnbeikdhlkaaDoor
namespace Go.Proofs.YthcpnbeikdhlkaaDoor
open Go Go.Abs Go.Proofs.Tt
theorem factAnd:((List.range 8).all fun (x:Nat)=>(List.range 8).all fun (y:Nat)=>bAnd (x:Int) (y:Int)==((x &&& y:Nat):Int))=true:=by kernel_rfl
theorem factOr:((List.range 8).all fun (x:Nat)=>(List.range 8).all fun (y:Nat)=>bOr (x:Int) (y:Int)==((x ||| y:Nat):Int))=true:=by kernel_rfl
theorem factSh:((List.range 4).all fun (h:Nat)=>shl64 1 (h:Int)==((2 ^ h:Nat):Int))=true:=by kernel_rfl
theorem factAll:((List.range 4).all fun (n:Nat)=>g12 (wr (shl64 1 (n:Int) - 1)) (n:Int)==some ((List.range n).map fun (h:Nat)=>(h:Int)))=true:=by kernel_rfl
theorem factMask:((List.range 4).all fun (n:Nat)=>wr (shl64 1 (n:Int) - 1)==((2 ^ n - 1:Nat):Int))=true:=by kernel_rfl
theorem all1 {P:Nat→Bool} {N n:Nat} (h:((List.range N).all P)=true) (hn:n<N):P n=true:=by
 rw [List.all_eq_true] at h
 exact h n (List.mem_range.2 hn)
theorem fAnd {x y:Nat} (hx:x<8) (hy:y<8):bAnd (x:Int) (y:Int)=((x &&& y:Nat):Int):=by simpa using all1 (all1 factAnd hx) hy
theorem fOr {x y:Nat} (hx:x<8) (hy:y<8):bOr (x:Int) (y:Int)=((x ||| y:Nat):Int):=by simpa using all1 (all1 factOr hx) hy
theorem fSh {h:Nat} (hh:h<4):shl64 1 (h:Int)=((2 ^ h:Nat):Int):=by simpa using all1 factSh hh
theorem fAll {n:Nat} (h:n<4):g12 (wr (shl64 1 (n:Int) - 1)) (n:Int)=some ((List.range n).map fun (h:Nat)=>(h:Int)):=by simpa using all1 factAll h
theorem fMask {n:Nat} (h:n<4):wr (shl64 1 (n:Int) - 1)=((2 ^ n - 1:Nat):Int):=by simpa using all1 factMask h
theorem p8 {n:Nat} (h:n≤3):2 ^ n≤8:=pow_le' h
theorem dayStep_nat {b:HarnessBook} (ok:HaOk b) {h:Nat} (hh:h<b.Needs.length) {s:Int×List Int} {x:Nat} (hx:x<2 ^ b.Needs.length) (hs:s.1=(x:Int)):∃ y:Nat,y<2 ^ b.Needs.length∧(dayStep b s h).1=(y:Int):=by
 have h3:=ok.n3
 have h8:=p8 h3
 unfold dayStep
 cases canS b s.2 h with
 | false=>exact ⟨x,hx,hs⟩
 | true=>
  have h2:2 ^ h<2 ^ b.Needs.length:=Nat.pow_lt_pow_right (by decide) hh
  refine ⟨x ||| 2 ^ h,Nat.or_lt_two_pow hx h2,?_⟩
  simp only [cond_true]
  rw [hs,fSh (by omega),fOr (by omega) (by omega)]
theorem day_nat {b:HarnessBook} (ok:HaOk b):∀ (order:List Nat),(∀ h,h∈order→h<b.Needs.length)→∀ (s:Int×List Int) (x:Nat),x<2 ^ b.Needs.length→s.1=(x:Int)→∃ y:Nat,y<2 ^ b.Needs.length∧(order.foldl (dayStep b) s).1=(y:Int)
 | [],ho,s,x,hx,hs=>⟨x,hx,hs⟩
 | h::os,ho,s,x,hx,hs=>by
  obtain ⟨y,hy,e⟩:=dayStep_nat ok (ho h (by simp)) hx hs
  exact day_nat ok os (fun k hk=>ho k (by simp [hk])) _ y hy e
def dayN (b:HarnessBook) (order:List Nat) (t:List Int):Nat:=(dayS b order t).toNat
theorem dayN_ok {b:HarnessBook} (ok:HaOk b) {order:List Nat} (ho:∀ h,h∈order→h<b.Needs.length) (t:List Int):dayN b order t<2 ^ b.Needs.length∧dayS b order t=(dayN b order t:Int):=by
 obtain ⟨y,hy,e⟩:=day_nat ok order ho (0,t) 0 (Nat.two_pow_pos _) rfl
 have e':dayS b order t=(y:Int):=e
 unfold dayN
 rw [e']
 exact ⟨by simpa using hy,by simp⟩
def setsN (b:HarnessBook) (order:List Nat):List Nat:=(truL b.Stock).map (dayN b order)
def sureN (b:HarnessBook) (order:List Nat):Nat:=(setsN b order).foldl (· &&& ·) (2 ^ b.Needs.length - 1)
def perhN (b:HarnessBook) (order:List Nat):Nat:=(setsN b order).foldl (· ||| ·) 0
theorem and_lt:∀ (l:List Nat) (x N:Nat),x<2 ^ N→l.foldl (· &&& ·) x<2 ^ N
 | [],x,N,h=>h
 | y::l,x,N,h=>by rw [List.foldl_cons];exact and_lt l _ N (Nat.lt_of_le_of_lt Nat.and_le_left h)
theorem sure_lt (b:HarnessBook) (order:List Nat):sureN b order<2 ^ b.Needs.length:=and_lt _ _ _ (by have:=Nat.two_pow_pos b.Needs.length;omega)
abbrev castL (l:List Nat):List Int:=l.map fun (h:Nat)=>(h:Int)
theorem hb60 {b:HarnessBook} (ok:HaOk b) {m:List (Harness_want×Int)} (hm:NdOk b m) {order:List Nat} (ho:∀ h,h∈order→h<b.Needs.length):g40 b (baldL b) m (castL order)=some ((sureN b order:Int),(perhN b order:Int)):=by
 have h3:=ok.n3
 have h8:=p8 h3
 have hc:∀ t,t∈truL b.Stock→∀ v:Int×Int,(fun a s=>rndC (g40_r6 b (baldL b) m (castL order)) a s) (arr t) (Ctl.next v:Ctl (Int×Int) Unit)=some (Ctl.next (bAnd v.1 (dayS b order t),bOr v.2 (dayS b order t)),true):=fun t ht v=>by
  obtain ⟨v1,v2⟩:=v
  simp only [rndC,g40_r6]
  rw [hb73 ok hm ho (tru_left ok ht)]
  rfl
 have h:=hb99 (fun a s=>rndC (g40_r6 b (baldL b) m (castL order)) a s) (Ctl.next:Int×Int→Ctl (Int×Int) Unit) (fun v t=>(bAnd v.1 (dayS b order t),bOr v.2 (dayS b order t))) ok (baldL b) m (wr (shl64 1 (b.Needs.length:Int) - 1),0) hc
 have key:∀ (ts:List (List Int)) (x y:Nat),x<2 ^ b.Needs.length→y<2 ^ b.Needs.length→ts.foldl (fun (v:Int×Int) t=>(bAnd v.1 (dayS b order t),bOr v.2 (dayS b order t))) ((x:Int),(y:Int))=((((ts.map (dayN b order)).foldl (· &&& ·) x:Nat):Int),(((ts.map (dayN b order)).foldl (· ||| ·) y:Nat):Int)):=by
  intro ts
  induction ts with
  | nil=>intro x y hx hy;rfl
  | cons t ts ih=>
   intro x y hx hy
   obtain ⟨d1,d2⟩:=dayN_ok ok ho t
   rw [List.foldl_cons,d2,fAnd (by omega) (by omega),fOr (by omega) (by omega),ih _ _ (Nat.lt_of_le_of_lt Nat.and_le_left hx) (Nat.or_lt_two_pow hy d1)]
   rfl
 unfold g40 g46
 rw [must_t (by simp),bsm,bsm]
 simp only
 rw [h,bsm,fMask (by omega)]
 have:=key (truL b.Stock) (2 ^ b.Needs.length - 1) 0 (by have:=Nat.two_pow_pos b.Needs.length;omega) (Nat.two_pow_pos _)
 rw [show ((0:Nat):Int)=0 from rfl] at this
 rw [this]
 rfl
theorem hb61 {b:HarnessBook} (ok:HaOk b) (bald:List Int) (m:List (Harness_want×Int)):g41 b bald m=some (castL (List.range b.Needs.length)):=by
 have h3:=ok.n3
 obtain ⟨l,e,hl⟩:=eachS_inv (f:=g41_3) (fun n l=>l=castL (List.range n)) b.Needs 0 [] rfl (fun j x l hj hx hl=>by
  rw [Nat.sub_zero] at hx
  have hlt:j<b.Needs.length:=(List.getElem?_eq_some_iff.1 hx).1
  refine ⟨l++[(j:Int)],?_,by rw [hl,List.range_succ,castL,castL,List.map_append];rfl⟩
  unfold g41_3
  rw [appL_ok (by rw [List.length_append,hl];simp;omega)]
  rfl)
 unfold g41
 rw [must_t (by simp;omega),bsm]
 rw [show ((0:Nat):Int)=0 from rfl] at e
 rw [e,bsm,hl,Nat.zero_add]
theorem eachS_forS {α S:Type} {f:Int→α→S→Option S} {g:Int→S→Option S} (h:∀ i x s,f i x s=g i s):∀ (xs:List α) (i:Int) (s:S),eachS f xs i s=forS g xs.length i s
 | [],i,s=>rfl
 | x::xs,i,s=>by
  rw [eachS,List.length_cons,forS,h]
  congr 1
  funext s'
  exact eachS_forS h xs (i+1) s'
theorem hb62_3 (set_:Int) (v:Int) (p:List Int) (l:List Int):g42_3 set_ v p l=g12_2 set_ v l:=by
 unfold g42_3 g12_2 g39
 cases must (decide (0≤v))<;>rfl
theorem hb62 {b:HarnessBook} (ok:HaOk b) (bald:List Int) (m:List (Harness_want×Int)) {s:Nat} (hs:s<2 ^ b.Needs.length):g42 b bald m (s:Int)=some (LT b.Needs.length s):=by
 have h3:=ok.n3
 have h:=f48 h3 hs
 unfold g12 at h
 rw [must_t (by simp;omega),bsm,Int.sub_zero,Int.toNat_natCast] at h
 have h':forS (g12_2 (s:Int)) b.Needs.length 0 ([]:List Int)=some (LT b.Needs.length s):=by
  cases hf:forS (g12_2 (s:Int)) b.Needs.length 0 ([]:List Int) with
  | none=>rw [hf] at h;cases h
  | some l=>rw [hf] at h;exact h
 unfold g42
 rw [must_t (by simp;omega),bsm,eachS_forS (hb62_3 (s:Int)),h',bsm,slcL_all,bsm]
theorem range_lt {n h:Nat} (hh:h∈List.range n):h<n:=List.mem_range.1 hh
theorem hb15 {b:HarnessBook} (ok:HaOk b):g13 b=some (LT b.Needs.length (sureN b (List.range b.Needs.length)),0):=by
 obtain ⟨m,e,hm⟩:=hb59 ok
 unfold g13
 rw [e,bsm]
 simp only [ne_eq,not_true_eq_false,decide_false,cond_false]
 rw [hb61 ok,bsm,hb60 ok hm (fun h=>range_lt),bsm]
 simp only
 rw [hb62 ok _ _ (sure_lt _ _),bsm]
def lenN (b:HarnessBook) (s:Nat):Int:=((LT b.Needs.length s).length:Int)
theorem factLen:((List.range 4).all fun (n:Nat)=>(List.range (2 ^ n)).all fun (s:Nat)=>decide ((LT n s).length≤n))=true:=by kernel_rfl
theorem len_bd {b:HarnessBook} (ok:HaOk b) {s:Nat} (hs:s<2 ^ b.Needs.length):0≤lenN b s∧lenN b s≤(b.Needs.length:Int):=by
 have h3:=ok.n3
 have:=of_decide_eq_true (all1 (all1 factLen (show b.Needs.length<4 by omega)) hs)
 unfold lenN
 omega
end Go.Proofs.YthcpnbeikdhlkaaDoor
namespace Go.Proofs.YthcpnbeikdhlkaaDoor
open Go Go.Abs Go.Proofs.Tt
theorem and_bit:∀ (l:List Nat) (x i:Nat),(l.foldl (· &&& ·) x).testBit i=(x.testBit i&&l.all (·.testBit i))
 | [],x,i=>by simp
 | y::l,x,i=>by rw [List.foldl_cons,and_bit l,Nat.testBit_and,List.all_cons,Bool.and_assoc]
theorem sure_bit {b:HarnessBook} {order:List Nat} {i:Nat} (hi:i<b.Needs.length):(sureN b order).testBit i=true↔∀ t,t∈truL b.Stock→(dayN b order t).testBit i=true:=by
 unfold sureN setsN
 rw [and_bit,Nat.testBit_two_pow_sub_one,decide_eq_true hi,Bool.true_and,List.all_eq_true]
 constructor
 ·intro h t ht
  exact h _ (List.mem_map.2 ⟨t,ht,rfl⟩)
 ·intro h s hs
  obtain ⟨t,ht,rfl⟩:=List.mem_map.1 hs
  exact h t ht
def sureL (b:HarnessBook):List Int:=LT b.Needs.length (sureN b (List.range b.Needs.length))
def cntB (b:HarnessBook) (k:Nat) (c:Int):HarnessBook:=⟨b.Hair,b.Needs,setL b.Stock (k:Int) ⟨c,c⟩,b.Pack,b.Bad⟩
theorem hb15' {b:HarnessBook} (ok:HaOk b):g13 b=some (sureL b,0):=hb15 ok
theorem packsL_len (b:HarnessBook):(packsL b).length=b.Stock.length:=by unfold packsL;simp
end Go.Proofs.YthcpnbeikdhlkaaDoor
namespace Go.Proofs.YthcpnbeikdhlkaaDoor
open Go Go.Abs Go.Proofs.Tt
def stU (b:HarnessBook) (t:List Int) (i:Nat):Int×List Int:=(List.range i).foldl (dayStep b) (0,t)
theorem stU_succ (b:HarnessBook) (t:List Int) (i:Nat):stU b t (i+1)=dayStep b (stU b t i) i:=by
 unfold stU
 rw [List.range_succ,List.foldl_append];rfl
theorem stU_bits {b:HarnessBook} (ok:HaOk b) {t:List Int} (ht:LeftOk b t):∀ m,m≤b.Needs.length→∃ x:Nat,x<2 ^ m∧(stU b t m).1=(x:Int)∧∀ i,i<m→x.testBit i=canS b (stU b t i).2 i
 | 0,h=>⟨0,by decide,rfl,fun i hi=>by omega⟩
 | m+1,h=>by
  have h3:=ok.n3
  obtain ⟨x,hx,e,hb⟩:=stU_bits ok ht m (by omega)
  have hxm:x.testBit m=false:=Nat.testBit_lt_two_pow hx
  have h2:2 ^ m<2 ^ (m+1):=Nat.pow_lt_pow_right (by decide) (by omega)
  have h8:2 ^ (m+1)≤8:=p8 (by omega)
  rw [stU_succ]
  unfold dayStep
  cases hc:canS b (stU b t m).2 m with
  | false=>
   refine ⟨x,by omega,e,fun i hi=>?_⟩
   by_cases him:i=m
   ·subst him;rw [hxm,hc]
   ·exact hb i (by omega)
  | true=>
   refine ⟨x ||| 2 ^ m,Nat.or_lt_two_pow (by omega) h2,?_,fun i hi=>?_⟩
   ·simp only [cond_true]
    rw [e,fSh (by omega),fOr (by omega) (by omega)]
   ·rw [Nat.testBit_or,Nat.testBit_two_pow]
    by_cases him:i=m
    ·subst him;rw [hxm,hc];simp
    ·rw [hb i (by omega),decide_eq_false (fun h=>him h.symm),Bool.or_false]
theorem day_bit {b:HarnessBook} (ok:HaOk b) {t:List Int} (ht:LeftOk b t) {i:Nat} (hi:i<b.Needs.length):(dayN b (List.range b.Needs.length) t).testBit i=canS b (stU b t i).2 i:=by
 obtain ⟨x,hx,e,hb⟩:=stU_bits ok ht b.Needs.length (Nat.le_refl _)
 have:dayN b (List.range b.Needs.length) t=x:=by
  show ((stU b t b.Needs.length).1).toNat=x
  rw [e];simp
 rw [this,hb i hi]
theorem tru_arr {b:HarnessBook} {t:List Int} (ht:t∈truL b.Stock) {k:Nat} (hk:k<b.Stock.length):lowOf b k≤arr t k∧arr t k≤highOf b k:=by
 obtain ⟨x,hx,h1,h2⟩:=(truL_mem _ _ ht).2 k _ (List.getElem?_eq_getElem hk)
 unfold lowOf highOf arr
 rw [hx,List.getElem?_eq_getElem hk]
 exact ⟨h1,h2⟩
end Go.Proofs.YthcpnbeikdhlkaaDoor
namespace Go.Proofs.YthcpnbeikdhlkaaDoor
open Go Go.Abs Go.Proofs.Tt
theorem rest_nn {b:HarnessBook} (ok:HaOk b) (k i:Nat):0≤sumL (wlS (baldL b) k (b.Needs.drop i) i):=
 (sum_bd _ (wl_bd _ _ _ _ (fun l hl=>(ok.nd l (List.mem_of_mem_drop hl)).2))).1
theorem rest_succ {b:HarnessBook} {i:Nat} (hi:i<b.Needs.length) (k:Nat):sumL (wlS (baldL b) k (b.Needs.drop i) i)=(bif decide ((i:Int)∈baldL b) then 0 else arr (rowOf b i) k)+sumL (wlS (baldL b) k (b.Needs.drop (i+1)) (i+1)):=by
 have hr:rowOf b i=b.Needs[i]:=by unfold rowOf;rw [List.getElem?_eq_getElem hi];rfl
 rw [List.drop_eq_getElem_cons hi,wlS,hr]
 cases decide ((i:Int)∈baldL b) with
 | true=>simp
 | false=>rfl
theorem serve_all {b:HarnessBook} (ok:HaOk b) {l:List Int} (hl:LeftOk b l) (hw:∀ k,k<b.Stock.length→want b k≤arr l k):∀ i,i≤b.Needs.length→∀ k,k<b.Stock.length→sumL (wlS (baldL b) k (b.Needs.drop i) i)≤arr (stU b l i).2 k
 | 0,hi,k,hk=>hw k hk
 | i+1,hi,k,hk=>by
  have ih:=serve_all ok hl hw i (by omega)
  have hr:=row_bd ok (show i<b.Needs.length by omega)
  have hle:leAll b.Stock.length (rowOf b i) (stU b l i).2=true∨(i:Int)∈baldL b:=by
   by_cases hc:(i:Int)∈baldL b
   ·exact .inr hc
   ·refine .inl (leAll_iff.2 fun j hj=>?_)
    have h1:=ih j hj
    rw [rest_succ (by omega),decide_eq_false hc,cond_false] at h1
    have:=rest_nn ok j (i+1)
    omega
  have h1:=ih k hk
  rw [rest_succ (by omega)] at h1
  rw [stU_succ]
  unfold dayStep canS
  by_cases hc:(i:Int)∈baldL b
  ·rw [decide_eq_true hc] at h1 ⊢
   simp only [cond_true,Bool.not_true,Bool.false_and,cond_false] at h1 ⊢
   omega
  ·rw [decide_eq_false hc] at h1 ⊢
   rw [hle.resolve_right hc]
   simp only [cond_false,Bool.not_false,Bool.true_and,cond_true] at h1 ⊢
   unfold subA
   rw [arr_mid _ _ hk,decide_eq_true hk,cond_true]
   omega
theorem serve_can {b:HarnessBook} (ok:HaOk b) {l:List Int} (hl:LeftOk b l) (hw:∀ k,k<b.Stock.length→want b k≤arr l k) {i:Nat} (hi:i<b.Needs.length):canS b (stU b l i).2 i=!decide ((i:Int)∈baldL b):=by
 unfold canS
 by_cases hc:(i:Int)∈baldL b
 ·rw [decide_eq_true hc];rfl
 ·rw [decide_eq_false hc]
  simp only [Bool.not_false,Bool.true_and]
  rw [leAll_iff]
  intro j hj
  have h1:=serve_all ok hl hw i (by omega) j hj
  rw [rest_succ hi,decide_eq_false hc,cond_false] at h1
  have:=rest_nn ok j (i+1)
  omega
end Go.Proofs.YthcpnbeikdhlkaaDoor
namespace Go.Proofs.YthcpnbeikdhlkaaDoor
open Go Go.Abs Go.Proofs.Tt
def allH (b:HarnessBook):List Nat:=List.range b.Needs.length
def openN (b:HarnessBook):Int:=lenN b (perhN b (allH b)) - lenN b (sureN b (allH b))
def worstN (b:HarnessBook) (k:Nat):Int:=(List.range' 0 (highOf b k - lowOf b k+1).toNat).foldl (fun w (j:Nat)=>max w (openN (cntB b k (lowOf b k+(j:Int))))) 0
def stepF (b:HarnessBook) (s:Int×Int) (k:Nat):Int×Int:=bif decide (s.1<0)||decide (worstN b k<s.2) then ((k:Int),worstN b k) else s
end Go.Proofs.YthcpnbeikdhlkaaDoor
namespace Go.Proofs.YthcpnbeikdhlkaaDoor
open Go Go.Abs Go.Proofs.Tt
def quL (n:Nat):Nat→List Nat→List (List Nat)
 | 0,pre=>[pre]
 | d+1,pre=>(List.range' 0 n).flatMap fun (h:Nat)=>bif decide (h∈pre) then [] else quL n d (pre++[h])
theorem castL_mem {l:List Nat} {h:Nat}:(h:Int)∈castL l↔h∈l:=by
 unfold castL
 rw [List.mem_map]
 constructor
 ·rintro ⟨k,hk,e⟩
  have:k=h:=by omega
  subst this;exact hk
 ·intro hh;exact ⟨h,hh,rfl⟩
theorem castL_len (l:List Nat):(castL l).length=l.length:=List.length_map ..
theorem castL_snoc (l:List Nat) (h:Nat):castL l++[(h:Int)]=castL (l++[h]):=by unfold castL;rw [List.map_append];rfl
def stepQ (b:HarnessBook) (s:Int×List Int) (q:List Nat):Int×List Int:=bif decide (s.1<lenN b (sureN b q)) then (lenN b (sureN b q),castL q) else s
theorem hb88 {b:HarnessBook} (ok:HaOk b) {m:List (Harness_want×Int)} (hm:NdOk b m):∀ (d:Nat) (pre:List Nat) (f:Nat) (s:Int×List Int),pre.length+d=b.Needs.length→d+1≤f→(∀ h,h∈pre→h<b.Needs.length)→g43 f (castL pre) b b (baldL b) m s.1 s.2=some ((quL b.Needs.length d pre).foldl (stepQ b) s)
 | d,pre,0,s,hl,hf,hp=>by omega
 | 0,pre,f+1,s,hl,hf,hp=>by
  obtain ⟨s1,s2⟩:=s
  rw [g43]
  rw [castL_len,decide_eq_true (by omega),cond_true,hb60 ok hm hp,bsm]
  simp only
  rw [hb62 ok _ _ (sure_lt _ _),bsm]
  show (bif decide (s1<lenN b (sureN b pre)) then some (lenN b (sureN b pre),castL pre) else some (s1,s2))=some (stepQ b (s1,s2) pre)
  unfold stepQ
  simp only
  cases decide (s1<lenN b (sureN b pre))<;>rfl
 | d+1,pre,f+1,s,hl,hf,hp=>by
  have h3:=ok.n3
  have key:∀ (ls:List (List Int)) (i:Nat) (s:Int×List Int),i+ls.length=b.Needs.length→eachS (g43_12 (g43 f) (castL pre) b b (baldL b) m) ls (i:Int) s=some (((List.range' i ls.length).flatMap fun (h:Nat)=>bif decide (h∈pre) then [] else quL b.Needs.length d (pre++[h])).foldl (stepQ b) s):=by
   intro ls
   induction ls with
   | nil=>intro i s hi;rfl
   | cons l ls ih=>
    intro i s hi
    rw [List.length_cons] at hi
    have hs:g43_12 (g43 f) (castL pre) b b (baldL b) m (i:Int) l s=some ((bif decide (i∈pre) then [] else quL b.Needs.length d (pre++[i])).foldl (stepQ b) s):=by
     obtain ⟨s1,s2⟩:=s
     unfold g43_12
     simp only
     rw [hb89,bsm]
     by_cases hc:i∈pre
     ·rw [decide_eq_true (castL_mem.2 hc),decide_eq_true hc]
      rfl
     ·rw [decide_eq_false (fun h=>hc (castL_mem.1 h)),decide_eq_false hc]
      simp only [Bool.not_false,cond_true,cond_false]
      have hr:=hb88 ok hm d (pre++[i]) f (s1,s2) (by simp;omega) (by omega) (fun k hk=>by
       rcases List.mem_append.1 hk with hk | hk
       ·exact hp k hk
       ·rw [List.mem_singleton] at hk;omega)
      rw [slcL_all,bsm,appL_ok (by rw [List.length_append,castL_len,List.length_singleton];omega),bsm,castL_snoc]
      simp only at hr
      rw [hr,bsm]
    rw [eachS,hs,bsm,show (i:Int)+1=((i+1:Nat):Int) by omega,ih (i+1) _ (by omega),List.length_cons,List.range'_succ,List.flatMap_cons,List.foldl_append]
  have hk:=key b.Needs 0 s (by omega)
  rw [show ((0:Nat):Int)=0 from rfl] at hk
  rw [g43]
  rw [castL_len,decide_eq_false (by omega),cond_false,hk,bsm,quL]
def allQ (b:HarnessBook):List (List Nat):=quL b.Needs.length b.Needs.length []
def bestQ (b:HarnessBook):Int×List Int:=(allQ b).foldl (stepQ b) (-1,[])
theorem factQu:((List.range 4).all fun (n:Nat)=>decide (0<(quL n n []).length))=true:=by kernel_rfl
theorem allQ_cons {b:HarnessBook} (ok:HaOk b):∃ q l,allQ b=q::l:=by
 have h3:=ok.n3
 have h:=of_decide_eq_true (all1 factQu (show b.Needs.length<4 by omega))
 unfold allQ
 match quL b.Needs.length b.Needs.length [],h with
 | q::l,_=>exact ⟨q,l,rfl⟩
theorem hb33 {b:HarnessBook} (ok:HaOk b):g14 b=some ((bestQ b).2,0):=by
 have h3:=ok.n3
 obtain ⟨m,e,hm⟩:=hb59 ok
 have h:=hb88 ok hm b.Needs.length [] 1000 (-1,[]) (by simp) (by omega) (fun h hh=>by cases hh)
 unfold g14
 rw [e,bsm]
 simp only [ne_eq,not_true_eq_false,decide_false,cond_false]
 simp only [castL,List.map_nil] at h
 rw [h,bsm]
 show ((slcL (bestQ b).2 0 ((bestQ b).2.length:Int)).bind _)=_
 rw [slcL_all,bsm]
end Go.Proofs.YthcpnbeikdhlkaaDoor
namespace Go.Proofs.YthcpnbeikdhlkaaDoor
open Go Go.Abs Go.Proofs.Tt
def fQ (b:HarnessBook) (q:List Nat):Int:=lenN b (sureN b q)
theorem best_mid {b:HarnessBook} (ok:HaOk b):∀ (l:List (List Nat)),l≠[]→∃ l1 q l2,l=l1++q::l2∧l.foldl (stepQ b) (-1,[])=(fQ b q,castL q)∧(∀ x,x∈l1→fQ b x<fQ b q)∧∀ x,x∈l2→fQ b x≤fQ b q:=by
 intro l
 generalize hn:l.length=n
 induction n generalizing l with
 | zero=>intro h;exact absurd (List.length_eq_zero_iff.1 hn) h
 | succ n ih=>
  intro h
  obtain ⟨m,x,rfl⟩:∃ m x,l=m++[x]:=⟨l.dropLast,l.getLast h,(List.dropLast_concat_getLast h).symm⟩
  rw [List.length_append,List.length_singleton] at hn
  rw [List.foldl_append]
  simp only [List.foldl_cons,List.foldl_nil]
  by_cases hm:m=[]
  ·subst hm
   have h0:=(len_bd ok (sure_lt b x)).1
   have e0:stepQ b (-1,[]) x=(fQ b x,castL x):=by
    unfold stepQ
    rw [decide_eq_true (show (-1:Int)<lenN b (sureN b x) by omega)]
    rfl
   exact ⟨[],x,[],rfl,e0,(fun y hy=>nomatch hy),(fun y hy=>nomatch hy)⟩
  ·obtain ⟨l1,q,l2,e,ef,a1,a2⟩:=ih m (by omega) hm
   rw [ef]
   unfold stepQ
   simp only
   by_cases hlt:fQ b q<lenN b (sureN b x)
   ·rw [decide_eq_true hlt]
    refine ⟨m,x,[],by simp,rfl,fun y hy=>?_,fun y hy=>by cases hy⟩
    rw [e] at hy
    show fQ b y<lenN b (sureN b x)
    rcases List.mem_append.1 hy with hy | hy
    ·have:=a1 y hy;omega
    ·rcases List.mem_cons.1 hy with rfl | hy
     ·exact hlt
     ·have:=a2 y hy;omega
   ·rw [decide_eq_false hlt]
    refine ⟨l1,q,l2++[x],by rw [e];simp,rfl,a1,fun y hy=>?_⟩
    rcases List.mem_append.1 hy with hy | hy
    ·exact a2 y hy
    ·rw [List.mem_singleton] at hy
     subst hy
     show lenN b (sureN b y)≤fQ b q
     omega
end Go.Proofs.YthcpnbeikdhlkaaDoor
namespace Go.Proofs.YthcpnbeikdhlkaaDoor
open Go Go.Abs Go.Proofs.Tt
theorem dressed_ok:g6=some true:=by kernel_rfl
theorem one_is (n:Int):g9 n=some ⟨n,n⟩:=rfl
theorem in_is (n a c:Int):g11 n a c=some (rg n a c):=rfl
def sd10 (s:Span):Bool:=decide (0≤s.Low)&&decide (s.Low≤s.High)&&decide (s.High≤40)
theorem small_l (b:HarnessBook) (hl:b.Stock.length<900) (s:Bool):whileC (g5_23 b) 1000 (s,0)=some (s&&b.Stock.all sd10):=by
 have h0:∀ i,g5_23 b (false,i)=some (.brk false):=fun i=>by simp [g5_23,bsm]
 cases s with
 | false=>rw [whileC,h0];rfl
 | true=>
  have:=while_all (f:=g5_23 b) (p:=sd10) (xs:=b.Stock) hl h0 (by simp [g5_23,bsm]) (fun i x hx=>by
   have hi:i<b.Stock.length:=(List.getElem?_eq_some_iff.1 hx).1
   simp only [g5_23,cond_true,bsm,ixL_nat,hx,g26,sd10]
   have:decide ((i:Int)<(b.Stock.length:Int))=true:=by simp [hi]
   rw [this,wr_nat (by omega)]
   simp only [cond_true]) b.Stock.length 0 (by omega) 1000 (by omega)
  simpa using this
theorem small_is (b:HarnessBook):g5 b=some (okHa b):=by
 unfold g5
 rw [hb18,bsm]
 cases hok:okHa b with
 | false=>
  simp only [cond_false,show decide ((100:Int)=0)=false from rfl,bsm]
  have e1:whileC (g5_23 b) 1000 (false,0)=some false:=by rw [whileC];simp [g5_23,bsm]
  simp only [e1,bsm]
 | true=>
  have ok:=haOk_of hok
  have h3:=ok.s3
  have h1:=ok.s1
  have hp:=ok.pack
  have hd:=ok.bad
  have q1:b.Stock.all sd10=true:=by
   rw [List.all_eq_true]
   intro x hx
   have:=ok.st x hx
   simp only [sd10,Bool.and_eq_true,decide_eq_true_eq]
   omega
  have a1:decide ((b.Hair.Hanks.length:Int)≤4)=true:=decide_eq_true (by have:=okH_l4 ok.ok;omega)
  have a2:decide ((b.Hair.Horses.length:Int)≤3)=true:=decide_eq_true (by have:=(okH_of ok.ok).l3;omega)
  have a3:decide ((b.Needs.length:Int)=(b.Hair.Horses.length:Int))=true:=decide_eq_true (by rw [ok.nl])
  have a4:rg (b.Stock.length:Int) 1 3=true:=rg_iff.2 (by omega)
  have a5:rg b.Pack 1 12=true:=rg_iff.2 hp
  have a6:rg b.Bad 0 (wr (b.Pack - 1))=true:=by rw [wr_in (by omega) (by omega)];exact rg_iff.2 hd
  simp only [cond_true,decide_true,p17,ok.ok,bsm,in_is,a1,a2,a3,a4,a5,a6,small_l b (by omega),q1,Bool.and_true]
theorem bald_nil {b:HarnessBook} (ok:HaOk b) (h:servedB b.Hair=true):baldL b=[]:=by
 obtain ⟨t,ht,e⟩:=p29 ok.ok
 have h3:=(okH_of ok.ok).l3
 obtain ⟨z1,z2,z3,z4⟩:=fz0 h3
 have h0:LackIs b.Hair 0:=⟨pow_pos' _,by rw [wo0 h3];exact h,fun u _ _=>by rw [z2];exact Nat.zero_le _⟩
 have:=lack_uniq h3 ht h0
 subst this
 unfold baldL
 rw [e,z1];rfl
theorem sure_all {b:HarnessBook} (ok:HaOk b) (hn:baldL b=[]) (hw:∀ k,k<b.Stock.length→want b k≤lowOf b k):sureN b (List.range b.Needs.length)=2 ^ b.Needs.length - 1:=by
 refine Nat.eq_of_testBit_eq fun i=>?_
 rw [Nat.testBit_two_pow_sub_one]
 by_cases hi:i<b.Needs.length
 ·rw [decide_eq_true hi,sure_bit hi]
  intro t ht
  have hl:=tru_left ok ht
  rw [day_bit ok hl hi,serve_can ok hl (fun k hk=>Int.le_trans (hw k hk) (tru_arr ht hk).1) hi,hn]
  rfl
 ·rw [decide_eq_false hi]
  exact Nat.testBit_lt_two_pow (Nat.lt_of_lt_of_le (sure_lt b _) (Nat.pow_le_pow_right (by omega) (by omega)))
theorem sure_is {b:HarnessBook} (ok:HaOk b) (h:sureN b (List.range b.Needs.length)=2 ^ b.Needs.length - 1):sureL b=castL (List.range b.Needs.length):=by
 have h3:=ok.n3
 have e:=fAll (show b.Needs.length<4 by omega)
 rw [fMask (show b.Needs.length<4 by omega)] at e
 unfold sureL LT
 rw [h,e];rfl
theorem factHd:((List.range 4).all fun (n:Nat)=>(quL n n []).head?==some (List.range n))=true:=by kernel_rfl
theorem queue_id {b:HarnessBook} (ok:HaOk b) (h:sureN b (List.range b.Needs.length)=2 ^ b.Needs.length - 1):(bestQ b).2=castL (List.range b.Needs.length):=by
 have h3:=ok.n3
 have hh:=all1 factHd (show b.Needs.length<4 by omega)
 have hh:=eq_of_beq hh
 obtain ⟨q0,l0,e0⟩:=allQ_cons ok
 have e1:allQ b=quL b.Needs.length b.Needs.length []:=rfl
 rw [← e1,e0] at hh
 have hq0:q0=List.range b.Needs.length:=by simpa using hh
 obtain ⟨l1,q,l2,e2,e3,lo,_⟩:=best_mid ok (allQ b) (by rw [e0];simp)
 have hb:(bestQ b).2=castL q:=by unfold bestQ;rw [e3]
 rw [hb]
 cases l1 with
 | nil=>
  rw [e0] at e2
  simp only [List.nil_append,List.cons.injEq] at e2
  rw [← e2.1,hq0]
 | cons a l1=>
  rw [e0] at e2
  simp only [List.cons_append,List.cons.injEq] at e2
  have h1:=lo a (by simp)
  rw [← e2.1,hq0] at h1
  have h2:fQ b (List.range b.Needs.length)=(b.Needs.length:Int):=by
   unfold fQ lenN
   rw [h,(fz0 h3).2.2.1]
  have h4:=(len_bd ok (sure_lt b q)).2
  unfold fQ at h1 h2
  omega
theorem bindC_nx {S R:Type} (s:S) (k:S→Option R):bindC (some (.next s)) k=k s:=rfl
theorem bindC_bk {S R:Type} (r:R) (k:S→Option R):bindC (some (.brk r):Option (Ctl S R)) k=some r:=rfl
theorem eq_refl15 (l:List Int) (hl:l.length<900):g15 l l=some true:=hb17 l hl
def atK (x:HarnessBook) (k:Nat):Int:=lowOf x k+packs x k*(x.Pack - x.Bad)
def oneL (x:HarnessBook) (n:Nat):List Span:=(List.range n).map fun (k:Nat)=>⟨atK x k,atK x k⟩
def onesB (x:HarnessBook):HarnessBook:=⟨x.Hair,x.Needs,oneL x x.Stock.length,x.Pack,x.Bad⟩
theorem oneL_succ (x:HarnessBook) (n:Nat):oneL x (n+1)=oneL x n++[⟨atK x n,atK x n⟩]:=by
 unfold oneL
 rw [List.range_succ,List.map_append];rfl
theorem oneL_len (x:HarnessBook) (n:Nat):(oneL x n).length=n:=by simp [oneL]
theorem oneL_get (x:HarnessBook) {n k:Nat} (h:k<n):(oneL x n)[k]?=some ⟨atK x k,atK x k⟩:=by
 unfold oneL
 rw [List.getElem?_map,List.getElem?_range h];rfl
theorem stable_loop {t x:HarnessBook} (ok:HaOk x) (hS:x.Stock=t.Stock) (hP:x.Pack=t.Pack) (hD:x.Bad=t.Bad):∀ (d i:Nat),i+d=t.Stock.length→(∀ k,k<i→atK x k≤40) →
  eachC (g3_34 t (packsL x)) (t.Stock.drop i) (i:Int) (oneL x i)=some (.brk true)∨(eachC (g3_34 t (packsL x)) (t.Stock.drop i) (i:Int) (oneL x i)=some (.next (oneL x t.Stock.length))∧∀ k,k<t.Stock.length→atK x k≤40)
 | 0,i,hi,h=>by
  right
  have:i=t.Stock.length:=by omega
  subst this
  rw [List.drop_length]
  exact ⟨rfl,h⟩
 | d+1,i,hi,h=>by
  have hlt:i<t.Stock.length:=by omega
  have h3:=ok.s3
  have hp:=ok.pack
  have hb:=ok.bad
  have hps:=packs_spec ok i
  have m1:=mul_bd hps.1 hps.2.1 (show 0≤x.Pack - x.Bad by omega) (by omega)
  have hst:=st_bd ok i
  have hlow:lowOf x i=(t.Stock[i]).Low:=by
   unfold lowOf
   rw [hS,List.getElem?_eq_getElem hlt]
  have hf:∀ l:List Span,l.length≤3→g3_34 t (packsL x) (i:Int) t.Stock[i] l=if 40<atK x i then some (.brk true) else some (.next (l++[⟨atK x i,atK x i⟩])):=fun l hl=>by
   unfold g3_34
   rw [ixL_nat,packsL_get x (by rw [hS];exact hlt),bsm,in_is,bsm,rg_iff.2 (show (0:Int)≤packs x i∧packs x i≤30 by omega)]
   rw [Bool.not_true,cond_false,← hP,← hD,← hlow,wr_in (n:=x.Pack - x.Bad) (by omega) (by omega),wr_in (n:=packs x i*(x.Pack - x.Bad)) (by omega) (by omega),wr_in (n:=lowOf x i+packs x i*(x.Pack - x.Bad)) (by omega) (by omega)]
   have e:lowOf x i+packs x i*(x.Pack - x.Bad)=atK x i:=rfl
   rw [e]
   by_cases h40:40<atK x i
   ·rw [if_pos h40,decide_eq_true h40,cond_true,dressed_ok];rfl
   ·rw [if_neg h40,decide_eq_false h40,cond_false,one_is,bsm,appL_ok (by rw [List.length_append,List.length_singleton];omega),bsm]
  rw [List.drop_eq_getElem_cons hlt,eachC,hf _ (by rw [oneL_len];rw [hS] at h3;omega)]
  by_cases h40:40<atK x i
  ·left;rw [if_pos h40,bsm]
  ·rw [if_neg h40,bsm,← oneL_succ]
   exact stable_loop ok hS hP hD d (i+1) (by omega) (fun k hk=>by
    by_cases e:k=i
    ·subst e;omega
    ·exact h k (by omega))
theorem stable_ok {x:HarnessBook} (ok:HaOk x) (h:∀ k,k<x.Stock.length→atK x k≤40):HaOk (onesB x):=by
 have h1:=ok.s1
 have h3:=ok.s3
 have hp:=ok.pack
 have hb:=ok.bad
 have hl:(onesB x).Stock.length=x.Stock.length:=oneL_len _ _
 refine ⟨ok.ok,by rw [hl];exact h1,by rw [hl];exact h3,ok.nl,ok.n3,hp,hb,fun s hs=>?_,fun l hx=>by rw [hl];exact ok.nd l hx⟩
 have hs':s∈oneL x x.Stock.length:=hs
 unfold oneL at hs'
 rw [List.mem_map] at hs'
 obtain ⟨k,hk,rfl⟩:=hs'
 have hk':=List.mem_range.1 hk
 have:=h k hk'
 have hps:=packs_spec ok k
 have m1:=mul_bd hps.1 hps.2.1 (show 0≤x.Pack - x.Bad by omega) (by omega)
 have hst:=st_bd ok k
 have e:atK x k=lowOf x k+packs x k*(x.Pack - x.Bad):=rfl
 show 0≤atK x k∧atK x k≤atK x k∧atK x k≤40∧atK x k - atK x k≤4
 omega
theorem want_ones (x:HarnessBook) (k:Nat):want (onesB x) k=want x k:=rfl
theorem low_ones (x:HarnessBook) {k:Nat} (h:k<x.Stock.length):lowOf (onesB x) k=atK x k:=by
 unfold lowOf
 have:(onesB x).Stock[k]?=some ⟨atK x k,atK x k⟩:=oneL_get x h
 rw [this]
theorem stable_sure {x:HarnessBook} (ok:HaOk x) (hs:servedB x.Hair=true) (h:∀ k,k<x.Stock.length→atK x k≤40):sureN (onesB x) (List.range x.Needs.length)=2 ^ x.Needs.length - 1:=by
 have ok':=stable_ok ok h
 refine sure_all ok' (bald_nil ok' hs) fun k hk=>?_
 have hk':k<x.Stock.length:=by
  have hl:(onesB x).Stock.length=x.Stock.length:=oneL_len _ _
  omega
 rw [want_ones,low_ones x hk']
 have hps:=packs_spec ok k
 unfold atK
 omega
theorem lack_some {b:HairBook} (hok:okH b=true) (hs:servedB b=false):∃ l,g16 b=some (l,0)∧0<(l.length:Int):=by
 obtain ⟨t,ht,e⟩:=p29 hok
 have h3:=(okH_of hok).l3
 refine ⟨_,e,?_⟩
 by_cases h0:(LT b.Horses.length t).length=0
 ·have:t=0:=(fz0 h3).2.2.2 t ht.lt h0
  subst this
  have h1:=ht.sv
  rw [wo0 h3,hs] at h1
  cases h1
 ·omega
theorem stable_rest {t x:HarnessBook} {buy sh:Int} (ok:HaOk x) (hs:servedB x.Hair=true) (hN:x.Needs=t.Needs) (hS:x.Stock=t.Stock) (hP:x.Pack=t.Pack) (hD:x.Bad=t.Bad) (hk:t.Hair.Hanks.length≤3) (b1:0≤buy) (b2:buy≤60)
  (hl:1<buy→∃ l,g16 (wB t.Hair (buy - 1) sh)=some (l,0)∧0<(l.length:Int)) :
  ((g10 x).bind fun (r0_3,r1_4)=>(bif (decide (r1_4≠0)) then (some true) else (some (decide ((r0_3.length:Int)≠(t.Stock.length:Int))))).bind fun v2=>bif ((v2||(decide (buy<0)))||(decide (60<buy))) then (some false) else (bindC (eachC (g3_34 t r0_3) t.Stock 0 ([]:List Span)) fun l2=>(must (decide (0≤(t.Needs.length:Int)))).bind fun _=>(g12 (wr ((shl64 1 (t.Needs.length:Int)) - 1)) (t.Needs.length:Int)).bind fun r0_1_1=>(g13 (HarnessBook.mk x.Hair t.Needs l2 t.Pack t.Bad)).bind fun (r0_4_1,r1_4_1)=>(g14 (HarnessBook.mk x.Hair t.Needs l2 t.Pack t.Bad)).bind fun (r0_2_1,r1_4_2)=>(bif ((decide (r1_4_1≠0))||(decide (r1_4_2≠0))) then (some true) else ((g15 r0_4_1 r0_1_1).bind fun r0_9=>some (!r0_9))).bind fun v4=>(bif v4 then (some true) else ((g15 r0_2_1 r0_1_1).bind fun r0_10=>some (!r0_10))).bind fun v5=>bif v5 then (some false) else (bif (decide (1<buy)) then ((appL 32 ([]:List HairHank) t.Hair.Hanks).bind fun l4=>(g9 (wr (buy - 1))).bind fun r0_11=>(g9 sh).bind fun r0_12=>(appL 32 l4 [(HairHank.mk r0_11 r0_12)]).bind fun l5=>(g16 (HairBook.mk l5 t.Hair.Horses t.Hair.Dark t.Hair.Near t.Hair.Match)).bind fun (r0_2_2,r1_1)=>(bif (decide (r1_1=0)) then (some (decide (0<(r0_2_2.length:Int)))) else (some false)).bind fun v6=>(bif v6 then ((g6).bind fun r0_8_3=>some r0_8_3) else (some false)).bind fun v7=>some v7) else ((g6).bind fun r0_8_4=>some r0_8_4))))=some true:=by
 have h3:=ok.s3
 have hn3:=ok.n3
 rw [hb27e ok,bsm]
 have hlen:(packsL x).length=t.Stock.length:=by rw [packsL_len,hS]
 simp only [ne_eq,not_true_eq_false,decide_false,cond_false,bsm,hlen]
 rw [decide_eq_false (show ¬ buy<0 by omega),decide_eq_false (show ¬ 60<buy by omega)]
 simp only [Bool.or_false,cond_false]
 have hloop:=stable_loop (t:=t) ok hS hP hD t.Stock.length 0 (by omega) (fun k hk=>absurd hk (Nat.not_lt_zero _))
 rw [List.drop_zero] at hloop
 rcases hloop with e | ⟨e,hat⟩
 ·have e':eachC (g3_34 t (packsL x)) t.Stock 0 ([]:List Span)=some (.brk true):=e
  rw [e',bindC_bk]
 ·have e':eachC (g3_34 t (packsL x)) t.Stock 0 ([]:List Span)=some (.next (oneL x t.Stock.length)):=e
  rw [e']
  have hB:HarnessBook.mk x.Hair t.Needs (oneL x t.Stock.length) t.Pack t.Bad=onesB x:=by
   unfold onesB
   rw [hN,hS,hP,hD]
  have hat':∀ k,k<x.Stock.length→atK x k≤40:=by rw [hS];exact hat
  have ok':=stable_ok ok hat'
  have hsu:=stable_sure ok hs hat'
  have e1:=sure_is ok' hsu
  have e2:=queue_id ok' hsu
  have hNl:(onesB x).Needs.length=t.Needs.length:=by rw [← hN];rfl
  rw [hNl] at e1 e2
  have hn:t.Needs.length<4:=by rw [← hN];omega
  have hlr:(castL (List.range t.Needs.length)).length<900:=by simp;omega
  have hall:g12 (wr ((shl64 1 (t.Needs.length:Int)) - 1)) (t.Needs.length:Int)=some (castL (List.range t.Needs.length)):=fAll hn
  rw [bindC_nx,must_t (decide_eq_true (Int.natCast_nonneg _)),bsm,hall,bsm]
  simp only [hB,hb15' ok',hb33 ok',bsm,e1,e2,ne_eq,not_true_eq_false,decide_false,Bool.or_self,cond_false,eq_refl15 _ hlr,Bool.not_true]
  by_cases h1:1<buy
  ·obtain ⟨l,el,hl0⟩:=hl h1
   rw [decide_eq_true h1,cond_true,appL_ok (by rw [List.nil_append];omega),bsm,List.nil_append,wr_in (by omega) (by omega),one_is,bsm,one_is,bsm,appL_ok (by rw [List.length_append,List.length_singleton];omega),bsm]
   have:(HairBook.mk (t.Hair.Hanks++[HairHank.mk ⟨buy - 1,buy - 1⟩ ⟨sh,sh⟩]) t.Hair.Horses t.Hair.Dark t.Hair.Near t.Hair.Match)=wB t.Hair (buy - 1) sh:=rfl
   rw [this,el,bsm]
   simp only [decide_true,cond_true,decide_eq_true hl0,bsm,dressed_ok]
  ·rw [decide_eq_false h1,cond_false,dressed_ok,bsm]
theorem plain3 (t:HarnessBook) (o:Nat→Int):g3 t o=some true:=by
 unfold g3
 rw [small_is,bsm]
 cases hok:okHa t with
 | false=>simp only [Bool.not_false,cond_true,bsm,dressed_ok]
 | true=>
  have ok:=haOk_of hok
  simp only [Bool.not_true,cond_false,bsm]
  by_cases h4:(t.Hair.Hanks.length:Int)=4
  ·rw [decide_eq_true h4,cond_true,dressed_ok];rfl
  ·rw [decide_eq_false h4,cond_false]
   have hk3:t.Hair.Hanks.length≤3:=by have:=okH_l4 ok.ok;omega
   obtain ⟨sh,es,s1,s2⟩:=p39 (o 0) (many:=21) (by decide) (by decide)
   rw [es,bsm]
   obtain ⟨r,hB,er⟩:=p31 ok.ok (s:=sh) s1 (by omega)
   rw [er,bsm]
   have hR:=fun {x:HarnessBook} {buy:Int}=>@stable_rest t x buy sh
   rcases hB with ⟨hs,rfl⟩ | ⟨_,_,rfl⟩ | ⟨w,w1,w2,hns,rfl,hsw,hmin⟩
   ·dsimp only
    rw [show decide ((0:Int)≠0)=false from rfl,cond_false,show decide ((0:Int)<0)=false from rfl,cond_false,bsm]
    exact hR (x:=t) (buy:=0) ok hs rfl rfl rfl rfl hk3 (by decide) (by decide) (fun h=>absurd h (by decide))
   ·simp only [show decide ((4:Int)≠0)=true from rfl,decide_true,cond_true,dressed_ok,bsm]
   ·dsimp only
    have eH:((appL 32 ([]:List HairHank) t.Hair.Hanks).bind fun l=>(g9 w).bind fun r0=>(g9 sh).bind fun r0_1=>(appL 32 l [(HairHank.mk r0 r0_1)]).bind fun l1=>some l1)=some (t.Hair.Hanks++[⟨⟨w,w⟩,⟨sh,sh⟩⟩]):=by
     rw [appL_ok (by rw [List.nil_append];omega),bsm,List.nil_append,one_is,bsm,one_is,bsm,appL_ok (by rw [List.length_append,List.length_singleton];omega),bsm]
    rw [show decide ((0:Int)≠0)=false from rfl,cond_false,show decide ((0:Int)<w)=true from decide_eq_true (by omega),cond_true,eH,bsm]
    have okw:okH (wB t.Hair w sh)=true:=okH_wB ok.ok hk3 w1 w2 s1 (by omega)
    have okx:HaOk ⟨wB t.Hair w sh,t.Needs,t.Stock,t.Pack,t.Bad⟩:=⟨okw,ok.s1,ok.s3,ok.nl,ok.n3,ok.pack,ok.bad,ok.st,ok.nd⟩
    exact hR (x:=⟨wB t.Hair w sh,t.Needs,t.Stock,t.Pack,t.Bad⟩) (buy:=w) okx hsw rfl rfl rfl rfl hk3 (by omega) w2 (fun h=>lack_some (okH_wB ok.ok hk3 (by omega) (by omega) s1 (by omega)) (hmin (w - 1) (by omega) (by omega)))
end Go.Proofs.YthcpnbeikdhlkaaDoor
