/- Plain laws. Conditions: none. -/
import Derived.Test.YthjogmcdfokihaaDoorAr
set_option linter.unusedVariables false
set_option linter.unusedSimpArgs false
namespace Go.Proofs.YthjogmcdfokihaaDoor
open Go.Abs Go.Proofs.Tp
theorem cs {α:Type} (c:Bool) (a b:α):(bif c then some a else some b)=some (bif c then a else b):=by cases c<;>rfl
theorem bsm {α β:Type} (a:α) (f:α→Option β):(some a).bind f=f a:=rfl
theorem eachS_all {α:Type} {f:Int→α→Bool→Option Bool} {p:α→Bool} (h:∀ i x s,f i x s=some (s&&p x)):∀ (xs:List α) (i:Int) (s:Bool),eachS f xs i s=some (s&&xs.all p)
 | [],i,s=>by simp [eachS]
 | x::xs,i,s=>by rw [eachS,h,bsm,eachS_all h xs];simp [Bool.and_assoc]
def rg (n a b:Int):Bool:=decide (a≤n)&&decide (n≤b)
theorem ixL_nat {α:Type} (xs:List α) (i:Nat):ixL xs (i:Int)=xs[i]?:=by
 unfold ixL
 have:decide (0≤(i:Int))=true:=by simp
 rw [this];simp
theorem rg_iff {n a c:Int}:rg n a c=true↔a≤n∧n≤c:=by simp [rg]
theorem must_t {x:Bool} (h:x=true):must x=some ():=by subst h;rfl
def firstI (p:Int→Bool):Nat→Int→Option Int
 | 0,_=>none
 | n+1,i=>bif p i then some i else firstI p n (i+1)
theorem firstI_none {p:Int→Bool}:∀ {n:Nat} {i:Int},firstI p n i=none↔∀ j,i≤j→j<i+n→p j=false
 | 0,i=>⟨fun _ j h1 h2=>by omega,fun _=>rfl⟩
 | n+1,i=>by
  rw [firstI]
  cases h0:p i with
  | true=>exact ⟨fun h=>by (cases h),fun h=>by have:=h i (by omega) (by omega);rw [h0] at this;cases this⟩
  | false=>
   rw [cond_false,firstI_none]
   constructor
   ·intro h j h1 h2
    by_cases e:j=i
    ·rw [e];exact h0
    ·exact h j (by omega) (by omega)
   ·intro h j h1 h2;exact h j (by omega) (by omega)
theorem firstI_some {p:Int→Bool}:∀ {n:Nat} {i j:Int},firstI p n i=some j→i≤j∧j<i+n∧p j=true∧∀ k,i≤k→k<j→p k=false
 | 0,i,j,h=>by cases h
 | n+1,i,j,h=>by
  rw [firstI] at h
  cases h0:p i with
  | true=>rw [h0] at h;cases h;exact ⟨by omega,by omega,h0,fun k h1 h2=>by omega⟩
  | false=>
   rw [h0,cond_false] at h
   obtain ⟨h1,h2,h3,h4⟩:=firstI_some h
   refine ⟨by omega,by omega,h3,fun k hk hk'=>?_⟩
   by_cases e:k=i
   ·rw [e];exact h0
   ·exact h4 k (by omega) hk'
theorem forC_first {S R:Type} {f:Int→S→Option (Ctl S R)} (I:S→Prop) (p:Int→Bool) (r:Int→R):∀ (n:Nat) (i:Int) (s:S),I s →
  (∀ j s,i≤j→j<i+n→I s→∃ s',I s'∧f j s=some (bif p j then .brk (r j) else .next s')) →
  ∃ s',I s'∧forC f n i s=some (match firstI p n i with | some j=>.brk (r j) | none=>.next s')
 | 0,i,s,hs,h=>⟨s,hs,rfl⟩
 | n+1,i,s,hs,h=>by
  obtain ⟨s1,h1,e1⟩:=h i s (by omega) (by omega) hs
  rw [forC,e1,bsm,firstI]
  cases p i with
  | true=>exact ⟨s1,h1,rfl⟩
  | false=>exact forC_first I p r n (i+1) s1 h1 (fun j s k1 k2=>h j s (by omega) (by omega))
theorem forC_firstU {R:Type} {f:Int→Unit→Option (Ctl Unit R)} (p:Int→Bool) (r:Int→R) (n:Nat) (i:Int) (h:∀ j,i≤j→j<i+n→f j ()=some (bif p j then .brk (r j) else .next ())) :
  forC f n i ()=some (match firstI p n i with | some j=>.brk (r j) | none=>.next ()):=by
 obtain ⟨s,_,e⟩:=forC_first (fun _=>True) p r n i () trivial (fun j s h1 h2 _=>⟨(),trivial,h j h1 h2⟩)
 exact e
theorem roomB_ok {n b:Nat} (h:n*b≤140737488355328):roomB n b=true:=Nat.ble_eq_true_of_le h
theorem appL_ok {α:Type} {sz:Nat} {l m:List α} (h:(l++m).length*sz≤140737488355328):appL sz l m=some (l++m):=by
 unfold appL
 rw [roomB_ok h];rfl
theorem slcL_all {α:Type} (l:List α):slcL l 0 (l.length:Int)=some l:=by
 unfold slcL
 have:(decide ((0:Int)≤0)&&(decide ((0:Int)≤(l.length:Int))&&decide ((l.length:Int)≤(l.length:Int))))=true:=by simp
 rw [this];simp
theorem forS_inv {S:Type} {f:Int→S→Option S} (I:Int→S→Prop):∀ (n:Nat) (i:Int) (s:S),I i s→(∀ j s,i≤j→j<i+n→I j s→∃ s',f j s=some s'∧I (j+1) s')→∃ s',forS f n i s=some s'∧I (i+n) s'
 | 0,i,s,hs,h=>⟨s,rfl,by simpa using hs⟩
 | n+1,i,s,hs,h=>by
  obtain ⟨s1,e1,h1⟩:=h i s (by omega) (by omega) hs
  obtain ⟨s2,e2,h2⟩:=forS_inv I n (i+1) s1 h1 (fun j s k1 k2=>h j s (by omega) (by omega))
  refine ⟨s2,by rw [forS,e1,bsm,e2],?_⟩
  rw [show i+((n+1:Nat):Int)=i+1+(n:Int) by omega]
  exact h2
theorem ixN_nat {n i:Nat} (h:i<n):ixN n (i:Int)=some i:=by
 unfold ixN
 have:(decide (0≤(i:Int))&&Nat.blt (i:Int).toNat n)=true:=by simp [h,Nat.blt_eq]
 rw [this];simp
theorem mfd_append {K W:Type} (q:K→K→Bool) (k k':K) (w:W):∀ (m:List (K×W)) (i:Nat),(mfd q k (m++[(k',w)]) i).map (·.2)=match (mfd q k m i).map (·.2) with
  | some v=>some v
  | none=>bif q k k' then some w else none
 | [],i=>by
  simp only [List.nil_append,mfd]
  cases q k k'<;>rfl
 | p::m,i=>by
  simp only [List.cons_append,mfd]
  cases q k p.1 with
  | true=>rfl
  | false=>simp only [cond_false];exact mfd_append q k k' w m (i+1)
theorem mget_append {K W:Type} (q:K→K→Bool) (m:List (K×W)) (k k':K) (w:W):mget q (m++[(k',w)]) k=match mget q m k with
  | some v=>some v
  | none=>bif q k k' then some w else none:=mfd_append q k k' w m 0
end Go.Proofs.YthjogmcdfokihaaDoor
namespace Go.Proofs.YthjogmcdfokihaaDoor
open Go.Abs Go.Proofs.Tp
def okSpan (s:Span) (a c w:Int):Bool:=decide (a≤s.Low)&&decide (s.Low≤s.High)&&decide (s.High≤c)&&decide (wr (s.High - s.Low)≤w)
def okHank (x:HairHank):Bool:=okSpan x.Weight 1 60 4&&okSpan x.Shade 0 20 2
def okHorse (x:HairHorse):Bool:=rg x.Mane 1 30&&rg x.Tail 1 30&&rg x.Shade 0 25
def okH (b:HairBook):Bool:=decide ((b.Hanks.length:Int)≤4)&&decide ((b.Horses.length:Int)≤3)&&rg b.Dark 0 4&&rg b.Near 0 3&&rg b.Match 0 3&&b.Hanks.all okHank&&b.Horses.all okHorse
theorem p57 (n a c:Int):g47 n a c=some (rg n a c):=rfl
theorem p63 (s:Span) (a c w:Int):g55 s a c w=some (okSpan s a c w):=rfl
theorem p17_15 (i:Int) (x:HairHank) (s:Bool):g30_15 i x s=some (s&&okHank x):=by
 simp only [g30_15,p63,bsm,cs,okHank,Bool.cond_false_right,Bool.and_assoc]
theorem p17_31 (i:Int) (x:HairHorse) (s:Bool):g30_31 i x s=some (s&&okHorse x):=by
 simp only [g30_31,p57,bsm,cs,okHorse,Bool.cond_false_right,Bool.and_assoc]
theorem p17 (b:HairBook):g30 b=some (bif okH b then 0 else 60):=by
 unfold g30
 simp only [p57,bsm,cs,Bool.cond_false_right,eachS_all p17_15,eachS_all p17_31]
 have:∀ x:Bool,(bif !x then (60:Int) else 0)=bif x then 0 else 60:=by intro x;cases x<;>rfl
 rw [this]
 simp only [okH,Bool.and_assoc]
structure HankOk (x:HairHank):Prop where
 w:1≤x.Weight.Low∧x.Weight.Low≤x.Weight.High∧x.Weight.High≤60
 s:0≤x.Shade.Low∧x.Shade.Low≤x.Shade.High∧x.Shade.High≤20
structure OkH (b:HairBook):Prop where
 l4:b.Hanks.length≤5
 l3:b.Horses.length≤3
 dark:0≤b.Dark∧b.Dark≤4
 near:0≤b.Near∧b.Near≤3
 mat:0≤b.Match∧b.Match≤3
 hanks:∀ x,x∈b.Hanks→HankOk x
 horses:∀ x,x∈b.Horses→(1≤x.Mane∧x.Mane≤30)∧(1≤x.Tail∧x.Tail≤30)∧0≤x.Shade∧x.Shade≤25
theorem okH_of {b:HairBook} (h:okH b=true):OkH b:=by
 simp only [okH,Bool.and_eq_true,rg_iff,decide_eq_true_eq,List.all_eq_true] at h
 obtain ⟨⟨⟨⟨⟨⟨h1,h2⟩,h3⟩,h4⟩,h5⟩,h6⟩,h7⟩:=h
 refine ⟨by omega,by omega,h3,h4,h5,fun x hx=>?_,fun x hx=>?_⟩
 ·have:=h6 x hx
  simp only [okHank,okSpan,Bool.and_eq_true,decide_eq_true_eq] at this
  exact ⟨by omega,by omega⟩
 ·have:=h7 x hx
  simp only [okHorse,Bool.and_eq_true,rg_iff] at this
  omega
theorem okH_l4 {b:HairBook} (h:okH b=true):b.Hanks.length≤4:=by
 simp only [okH,Bool.and_eq_true,decide_eq_true_eq] at h
 omega
theorem q84_iff (x y:Hair_dye):q107 x y=true↔x=y:=by
 cases x;cases y
 simp [q107]
def shOf (b:HairBook) (h n:Int):Span:=match b.Hanks[h.toNat]? with
 | some x=>⟨x.Shade.Low+n,x.Shade.High+n⟩
 | none=>⟨0,0⟩
def ShK (b:HairBook) (k j:Int) (m:List (Hair_dye×Span)):Prop:=∀ h n,mget q107 m ⟨h,n⟩=bif (decide (0≤h)&&decide (h<k)&&decide (0≤n)&&decide (n≤b.Dark))||(decide (h=k)&&decide (0≤n)&&decide (n<j)) then some (shOf b h n) else none
theorem eachS_inv {α S:Type} {f:Int→α→S→Option S} (I:Nat→S→Prop):∀ (xs:List α) (i:Nat) (s:S),I i s→(∀ j x s,i≤j→xs[j - i]?=some x→I j s→∃ s',f (j:Int) x s=some s'∧I (j+1) s')→∃ s',eachS f xs (i:Int) s=some s'∧I (i+xs.length) s'
 | [],i,s,hs,h=>⟨s,rfl,by simpa using hs⟩
 | x::xs,i,s,hs,h=>by
  obtain ⟨s1,e1,h1⟩:=h i x s (Nat.le_refl _) (by simp) hs
  obtain ⟨s2,e2,h2⟩:=eachS_inv I xs (i+1) s1 h1 (fun j y s hj hy hI=>h j y s (by omega) (by
   have:j - i=(j - (i+1))+1:=by omega
   rw [this,List.getElem?_cons_succ];exact hy) hI)
  refine ⟨s2,?_,?_⟩
  ·rw [eachS,e1,bsm,show (i:Int)+1=((i+1:Nat):Int) by omega,e2]
  ·rw [List.length_cons,show i+(xs.length+1)=i+1+xs.length by omega];exact h2
theorem p80_8 {b:HairBook} (ok:OkH b) {k:Nat} {x:HairHank} (hx:b.Hanks[k]?=some x) {j:Int} (h0:0≤j) (h1:j≤b.Dark) {m:List (Hair_dye×Span)} (hm:ShK b k j m):∃ m',g31_8 (k:Int) x j m=some m'∧ShK b k (j+1) m':=by
 have hd:=ok.dark
 have hs:=(ok.hanks x (List.mem_of_getElem? hx)).s
 have hnone:mget q107 m ⟨(k:Int),j⟩=none:=by
  rw [hm]
  have:((decide (0≤(k:Int))&&decide ((k:Int)<(k:Int))&&decide (0≤j)&&decide (j≤b.Dark))||(decide ((k:Int)=(k:Int))&&decide (0≤j)&&decide (j<j)))=false:=by simp
  rw [this];rfl
 have hsh:shOf b (k:Int) j=⟨x.Shade.Low+j,x.Shade.High+j⟩:=by
  unfold shOf
  rw [Int.toNat_natCast,hx]
 refine ⟨m++[(⟨(k:Int),j⟩,⟨x.Shade.Low+j,x.Shade.High+j⟩)],?_,fun h n=>?_⟩
 ·unfold g31_8 mput
  rw [hnone,wr_in (by omega) (by omega),wr_in (by omega) (by omega)]
  rfl
 ·rw [mget_append]
  by_cases he:h=(k:Int)∧n=j
  ·obtain ⟨rfl,rfl⟩:=he
   rw [hnone]
   have hq:q107 ⟨(k:Int),n⟩ ⟨(k:Int),n⟩=true:=(q84_iff _ _).2 rfl
   have ht:((decide (0≤(k:Int))&&decide ((k:Int)<(k:Int))&&decide (0≤n)&&decide (n≤b.Dark))||(decide ((k:Int)=(k:Int))&&decide (0≤n)&&decide (n<n+1)))=true:=by
    simp;omega
   rw [ht,hsh]
   simp only [hq,cond_true]
  ·have hq:q107 ⟨h,n⟩ ⟨(k:Int),j⟩=false:=by
    cases hc:q107 ⟨h,n⟩ ⟨(k:Int),j⟩ with
    | false=>rfl
    | true=>
     have:=(q84_iff _ _).1 hc
     injection this with e1 e2
     exact absurd ⟨e1,e2⟩ he
   rw [hm,hq]
   have:(decide (h=(k:Int))&&decide (0≤n)&&decide (n<j))=(decide (h=(k:Int))&&decide (0≤n)&&decide (n<j+1)):=by
    rw [Bool.eq_iff_iff]
    simp only [Bool.and_eq_true,decide_eq_true_eq]
    constructor
    ·rintro ⟨⟨a1,a2⟩,a3⟩;exact ⟨⟨a1,a2⟩,by omega⟩
    ·rintro ⟨⟨a1,a2⟩,a3⟩
     refine ⟨⟨a1,a2⟩,?_⟩
     by_cases e:n=j
     ·exact absurd ⟨a1,e⟩ he
     ·omega
   rw [this]
   cases (decide (0≤h)&&decide (h<(k:Int))&&decide (0≤n)&&decide (n≤b.Dark))||(decide (h=(k:Int))&&decide (0≤n)&&decide (n<j+1))<;>rfl
def ShOk (b:HairBook) (m:List (Hair_dye×Span)):Prop:=∀ (h n:Int),0≤h→h<b.Hanks.length→0≤n→n≤b.Dark→mget q107 m ⟨h,n⟩=some (shOf b h n)
theorem p80 {b:HairBook} (ok:OkH b):∃ m,g31 b=some (b,m)∧ShOk b m:=by
 have hd:=ok.dark
 have e:wr (b.Dark+1)=b.Dark+1:=wr_in (by omega) (by omega)
 obtain ⟨m,em,hm⟩:=eachS_inv (f:=g31_3 b) (fun k m=>ShK b (k:Int) 0 m) b.Hanks 0 [] (fun h n=>by
  have:((decide (0≤h)&&decide (h<((0:Nat):Int))&&decide (0≤n)&&decide (n≤b.Dark))||(decide (h=((0:Nat):Int))&&decide (0≤n)&&decide (n<0)))=false:=by
   rw [Bool.eq_false_iff]
   intro hc
   simp only [Bool.or_eq_true,Bool.and_eq_true,decide_eq_true_eq] at hc
   omega
  rw [this];rfl) (fun k x m hk hx hm=>by
  rw [Nat.sub_zero] at hx
  obtain ⟨m',e',h'⟩:=forS_inv (f:=g31_8 (k:Int) x) (fun j m=>ShK b (k:Int) j m) (b.Dark+1 - 0).toNat 0 m hm (fun j s j1 j2 hs=>p80_8 ok hx j1 (by omega) hs)
  refine ⟨m',by unfold g31_3;rw [e,e',bsm],fun h n=>?_⟩
  rw [h']
  congr 1
  rw [Bool.eq_iff_iff]
  simp only [Bool.or_eq_true,Bool.and_eq_true,decide_eq_true_eq]
  omega)
 refine ⟨m,?_,fun h n h1 h2 h3 h4=>?_⟩
 ·unfold g31
  rw [show ((0:Nat):Int)=0 from rfl] at em
  rw [em,bsm]
 ·rw [hm]
  have:((decide (0≤h)&&decide (h<((0+b.Hanks.length:Nat):Int))&&decide (0≤n)&&decide (n≤b.Dark))||(decide (h=((0+b.Hanks.length:Nat):Int))&&decide (0≤n)&&decide (n<0)))=true:=by
   simp only [Bool.or_eq_true,Bool.and_eq_true,decide_eq_true_eq]
   omega
  rw [this];rfl
def nearB (b:HairBook) (want:Int) (s:Span):Bool:=decide (s.High - want≤b.Near)&&decide (want - s.Low≤b.Near)
def mB (b:HairBook) (want mane tail m t:Int):Bool:=nearB b want (shOf b mane m)&&nearB b want (shOf b tail t) &&
 bif decide (mane=tail) then decide (-b.Match≤m - t)&&decide (m - t≤b.Match) else decide ((shOf b mane m).High - (shOf b tail t).Low≤b.Match)&&decide ((shOf b tail t).High - (shOf b mane m).Low≤b.Match)
theorem sh_bd {b:HairBook} (ok:OkH b) {h n:Int} (h1:0≤h) (h2:h<b.Hanks.length) (h3:0≤n) (h4:n≤b.Dark):0≤(shOf b h n).Low∧(shOf b h n).Low≤(shOf b h n).High∧(shOf b h n).High≤24:=by
 have hd:=ok.dark
 have hlt:h.toNat<b.Hanks.length:=by omega
 have hs:=(ok.hanks _ (List.getElem_mem hlt)).s
 unfold shOf
 rw [List.getElem?_eq_getElem hlt]
 simp only
 omega
theorem p100 {b:HairBook} (ok:OkH b) {mf:List (Hair_dye×Span)} (hmf:ShOk b mf) {horse:Int} {p:HairHorse} (hp:ixL b.Horses horse=some p) (hw:0≤p.Shade∧p.Shade≤25) {mane tail m t:Int} (a1:0≤mane) (a2:mane<b.Hanks.length) (b1:0≤tail) (b2:tail<b.Hanks.length)
  (m1:0≤m) (m2:m≤b.Dark) (t1:0≤t) (t2:t≤b.Dark):g72 b mf horse ⟨mane,m⟩ ⟨tail,t⟩=some (mB b p.Shade mane tail m t):=by
 have hd:=ok.dark
 have hn:=ok.near
 have hma:=ok.mat
 have hs:=sh_bd ok a1 a2 m1 m2
 have ht:=sh_bd ok b1 b2 t1 t2
 unfold g72
 rw [hp,bsm,hmf mane m a1 a2 m1 m2,hmf tail t b1 b2 t1 t2]
 simp only [Option.getD_some]
 generalize hS:shOf b mane m=s at hs
 generalize hT:shOf b tail t=u at ht
 have g3:∀ a x y z,g77 a [x,y,z]=some (max (max (max a x) y) z):=fun _ _ _ _=>rfl
 have g1:∀ a x,g77 a [x]=some (max a x):=fun _ _=>rfl
 rw [wr_in (show -9223372036854775808≤s.High - p.Shade by omega) (by omega),wr_in (show -9223372036854775808≤p.Shade - s.Low by omega) (by omega),wr_in (show -9223372036854775808≤u.High - p.Shade by omega) (by omega),wr_in (show -9223372036854775808≤p.Shade - u.Low by omega) (by omega),g3,bsm,
  wr_in (show -9223372036854775808≤m - t by omega) (by omega),wr_in (show -9223372036854775808≤-b.Match by omega) (by omega),wr_in (show -9223372036854775808≤s.High - u.Low by omega) (by omega),wr_in (show -9223372036854775808≤u.High - s.Low by omega) (by omega),g1,p57]
 simp only [bsm,cs]
 unfold mB nearB
 rw [hS,hT]
 by_cases hnear:b.Near<max (max (max (s.High - p.Shade) (p.Shade - s.Low)) (u.High - p.Shade)) (p.Shade - u.Low)
 ·rw [decide_eq_true hnear,cond_true]
  have:(decide (s.High - p.Shade≤b.Near)&&decide (p.Shade - s.Low≤b.Near)&&(decide (u.High - p.Shade≤b.Near)&&decide (p.Shade - u.Low≤b.Near)))=false:=by
   rw [Bool.eq_false_iff]
   intro hc
   simp only [Bool.and_eq_true,decide_eq_true_eq] at hc
   omega
  rw [this];rfl
 ·rw [decide_eq_false hnear,cond_false]
  have:(decide (s.High - p.Shade≤b.Near)&&decide (p.Shade - s.Low≤b.Near)&&(decide (u.High - p.Shade≤b.Near)&&decide (p.Shade - u.Low≤b.Near)))=true:=by
   simp only [Bool.and_eq_true,decide_eq_true_eq]
   omega
  rw [this,Bool.true_and]
  by_cases he:mane=tail
  ·rw [decide_eq_true he]
   simp only [cond_true]
   by_cases hmt:m=t
   ·subst he;subst hmt
    have e1:(false != ((mane==mane)&&((m==m)&&true)))=true:=by simp
    have e2:(decide (-b.Match≤m - m)&&decide (m - m≤b.Match))=true:=by
     simp only [Bool.and_eq_true,decide_eq_true_eq];omega
    rw [e1,e2];rfl
   ·have e1:(false != ((mane==tail)&&((m==t)&&true)))=false:=by
     have:(m==t)=false:=by simpa using hmt
     rw [this];simp
    rw [e1];rfl
  ·rw [decide_eq_false he]
   simp only [cond_false]
   congr 1
   rw [Bool.eq_iff_iff]
   simp only [Bool.and_eq_true,decide_eq_true_eq]
   omega
def dyesF (b:HairBook) (want mane tail:Int):Option (Int×Int):=(firstI (fun m=>(firstI (fun t=>mB b want mane tail m t) (b.Dark+1).toNat 0).isSome) (b.Dark+1).toNat 0).map fun m=>(m,(firstI (fun t=>mB b want mane tail m t) (b.Dark+1).toNat 0).getD 0)
theorem p59 {b:HairBook} (ok:OkH b) {mf:List (Hair_dye×Span)} (hmf:ShOk b mf) {horse:Int} {p:HairHorse} (hp:ixL b.Horses horse=some p) (hw:0≤p.Shade∧p.Shade≤25) {mane tail:Int} (a1:0≤mane) (a2:mane<b.Hanks.length) (b1:0≤tail) (b2:tail<b.Hanks.length) :
  g65 b mf horse mane tail=some (match dyesF b p.Shade mane tail with | some x=>(⟨mane,x.1⟩,⟨tail,x.2⟩,true) | none=>(⟨0,0⟩,⟨0,0⟩,false)):=by
 have hd:=ok.dark
 have e:wr (b.Dark+1)=b.Dark+1:=wr_in (by omega) (by omega)
 unfold g65
 rw [e,Int.sub_zero]
 have:=forC_firstU (f:=g65_2 b mf horse mane tail) (fun m=>(firstI (fun t=>mB b p.Shade mane tail m t) (b.Dark+1).toNat 0).isSome) (fun m=>((⟨mane,m⟩:Hair_dye),(⟨tail,(firstI (fun t=>mB b p.Shade mane tail m t) (b.Dark+1).toNat 0).getD 0⟩:Hair_dye),true)) (b.Dark+1).toNat 0 (fun m m1 m2=>by
  have:=forC_firstU (f:=g65_6 b mf horse mane tail m) (fun t=>mB b p.Shade mane tail m t) (fun t=>.brk ((⟨mane,m⟩:Hair_dye),(⟨tail,t⟩:Hair_dye),true)) (b.Dark+1).toNat 0 (fun t t1 t2=>by
   unfold g65_6
   rw [p100 ok hmf hp hw a1 a2 b1 b2 m1 (by omega) t1 (by omega),bsm,cs])
  unfold g65_2
  rw [e,Int.sub_zero,this]
  cases firstI (fun t=>mB b p.Shade mane tail m t) (b.Dark+1).toNat 0<;>rfl)
 rw [this]
 unfold dyesF
 cases firstI (fun m=>(firstI (fun t=>mB b p.Shade mane tail m t) (b.Dark+1).toNat 0).isSome) (b.Dark+1).toNat 0<;>rfl
end Go.Proofs.YthjogmcdfokihaaDoor
namespace Go.Proofs.YthjogmcdfokihaaDoor
open Go.Abs Go.Proofs.Tp
def partN (b:HairBook) (v:Nat):Int:=match b.Horses[v / 2]? with
 | some h=>bif decide (v % 2=0) then h.Mane else h.Tail
 | none=>0
def cutS (b:HairBook):List Int→Nat→Int→Int
 | [],_,_=>0
 | p::ps,v,k=>(bif decide (p=k) then partN b v else 0)+cutS b ps (v+1) k
theorem partN_bd {b:HairBook} (ok:OkH b) (v:Nat):0≤partN b v∧partN b v≤30:=by
 unfold partN
 cases hh:b.Horses[v / 2]? with
 | none=>simp
 | some h=>
  obtain ⟨h1,h2,_⟩:=ok.horses h (List.mem_of_getElem? hh)
  simp only
  cases decide (v % 2=0)<;>simp only [cond_true,cond_false]<;>omega
theorem cutS_bd {b:HairBook} (ok:OkH b) (k:Int):∀ (ps:List Int) (v:Nat),0≤cutS b ps v k∧cutS b ps v k≤30*ps.length
 | [],v=>by simp [cutS]
 | p::ps,v=>by
  have h1:=partN_bd ok v
  have h2:=cutS_bd ok k ps (v+1)
  rw [cutS,List.length_cons]
  cases decide (p=k)<;>simp only [cond_true,cond_false]<;>omega
def planB (b:HairBook) (plan:List Int):Bool:=decide ((plan.length:Int)=2*(b.Horses.length:Int))&&plan.all fun n=>rg n 0 ((b.Hanks.length:Int) - 1)
structure PlanOk (b:HairBook) (plan:List Int):Prop where
 len:plan.length=2*b.Horses.length
 rng:∀ n,n∈plan→0≤n∧n<b.Hanks.length
theorem plan_of {b:HairBook} {plan:List Int} (h:planB b plan=true):PlanOk b plan:=by
 simp only [planB,Bool.and_eq_true,decide_eq_true_eq,List.all_eq_true,rg_iff] at h
 exact ⟨by omega,fun n hn=>by have:=h.2 n hn;omega⟩
theorem tdiv_nat (v:Nat):(v:Int).tdiv 2=((v / 2:Nat):Int):=rfl
theorem tmod_nat (v:Nat):(v:Int).tmod 2=((v % 2:Nat):Int):=rfl
theorem aset_get (w:Nat→Int) (j k:Nat) (x:Int):aset w j x k=if k=j then x else w k:=by
 unfold aset
 by_cases h:k=j
 ·subst h;simp
 ·rw [if_neg h]
  cases hb:Nat.beq k j with
  | true=>exact absurd (Nat.eq_of_beq_eq_true hb) h
  | false=>rfl
def fitK (b:HairBook) (plan:List Int):Bool:=b.Hanks.zipIdx.all fun y=>!decide (y.1.Weight.Low<cutS b plan 0 (y.2:Int))
def dyeK (b:HairBook) (plan:List Int):Bool:=b.Horses.zipIdx.all fun y=>(dyesF b y.1.Shade ((plan[2*y.2]?).getD 0) ((plan[2*y.2+1]?).getD 0)).isSome
def worksB (b:HairBook) (plan:List Int):Bool:=fitK b plan&&dyeK b plan
def offS (b:HairBook) (plan:List Int) (by_:Span→Int):List HairHank→Nat→Int
 | [],_=>0
 | x::xs,k=>(bif decide (0<cutS b plan 0 (k:Int)) then by_ x.Weight - cutS b plan 0 (k:Int) else 0)+offS b plan by_ xs (k+1)
theorem off_loop {b:HairBook} (ok:OkH b) {plan:List Int} (hp:PlanOk b plan) {w:Nat→Int} (hw:∀ k:Nat,w k=cutS b plan 0 (k:Int)) {f:Int→HairHank→Int→Option Int} {by_:Span→Int} (hby:∀ x,x∈b.Hanks→0≤by_ x.Weight∧by_ x.Weight≤60)
  (hf:∀ (k:Nat) (x:HairHank) (n:Int),f (k:Int) x n=(ixN 5 (k:Int)).bind fun j=>bif decide (0<w j) then (some (by_ x.Weight)).bind fun r=>(ixN 5 (k:Int)).bind fun j1=>some (wr (n+wr (r - w j1))) else some n) :
  ∀ (xs:List HairHank) (k:Nat) (n c:Int),(∀ x,x∈xs→x∈b.Hanks)→k+xs.length≤5→0≤c→c+1000*xs.length≤100000→-c≤n→n≤c→eachS f xs (k:Int) n=some (n+offS b plan by_ xs k)∧-(1000*xs.length:Int)≤offS b plan by_ xs k∧offS b plan by_ xs k≤1000*xs.length
 | [],k,n,c,hx,hk,h0,hc,h1,h2=>⟨by simp [eachS,offS],by simp [offS],by simp [offS]⟩
 | x::xs,k,n,c,hx,hk,h0,hc,h1,h2=>by
  simp only [List.length_cons] at hk hc ⊢
  have h3:=ok.l3
  have hlen:=hp.len
  have hcut:=cutS_bd ok (k:Int) plan 0
  have hb:=hby x (hx x (by simp))
  have hstep:f (k:Int) x n=some (n+(bif decide (0<cutS b plan 0 (k:Int)) then by_ x.Weight - cutS b plan 0 (k:Int) else 0)):=by
   rw [hf,ixN_nat (show k<5 by omega),bsm,hw]
   cases decide (0<cutS b plan 0 (k:Int)) with
   | false=>simp
   | true=>
    simp only [cond_true,bsm]
    rw [hw,wr_in (show -9223372036854775808≤by_ x.Weight - cutS b plan 0 (k:Int) by omega) (by omega),wr_in (by omega) (by omega)]
  have hbd:-1000≤(bif decide (0<cutS b plan 0 (k:Int)) then by_ x.Weight - cutS b plan 0 (k:Int) else 0)∧(bif decide (0<cutS b plan 0 (k:Int)) then by_ x.Weight - cutS b plan 0 (k:Int) else 0)≤1000:=by
   cases decide (0<cutS b plan 0 (k:Int))<;>simp only [cond_true,cond_false]<;>omega
  obtain ⟨e,b1,b2⟩:=off_loop ok hp hw hby hf xs (k+1) _ (c+1000) (fun y hy=>hx y (by simp [hy])) (by omega) (by omega) (by omega) (show -(c+1000)≤n+(bif decide (0<cutS b plan 0 (k:Int)) then by_ x.Weight - cutS b plan 0 (k:Int) else 0) by omega) (by omega)
  refine ⟨?_,by rw [offS];omega,by rw [offS];omega⟩
  rw [eachS,hstep,bsm,show (k:Int)+1=((k+1:Nat):Int) by omega,e,offS,Int.add_assoc]
end Go.Proofs.YthjogmcdfokihaaDoor
namespace Go.Proofs.YthjogmcdfokihaaDoor
open Go Go.Abs Go.Proofs.Tp
theorem offS_zero {b:HairBook} {plan:List Int} {by_:Span→Int}:∀ (xs:List HairHank) (k:Nat),(∀ j,k≤j→j<k+xs.length→cutS b plan 0 (j:Int)=0)→offS b plan by_ xs k=0
 | [],k,h=>rfl
 | x::xs,k,h=>by
  rw [offS,h k (Nat.le_refl _) (by simp),offS_zero xs (k+1) (fun j h1 h2=>h j (by omega) (by simp only [List.length_cons];omega))]
  simp
theorem p75_core {b:HairBook} (ok:OkH b) {plan:List Int} (hp:PlanOk b plan) {w:Nat→Int} (hw:∀ k:Nat,w k=cutS b plan 0 (k:Int)) {f:Int→HairHank→Int→Option Int} {by_:Span→Int} (hby:∀ x,x∈b.Hanks→0≤by_ x.Weight∧by_ x.Weight≤60)
  (hf:∀ (k:Nat) (x:HairHank) (n:Int),f (k:Int) x n=(ixN 5 (k:Int)).bind fun j=>bif decide (0<w j) then (some (by_ x.Weight)).bind fun r=>(ixN 5 (k:Int)).bind fun j1=>some (wr (n+wr (r - w j1))) else some n) :
  (bif (false != (((w 0)==0)&&(((w 1)==0)&&(((w 2)==0)&&(((w 3)==0)&&(((w 4)==0)&&true)))))) then (some 0) else ((eachS f b.Hanks 0 0).bind fun n=>some n))=some (offS b plan by_ b.Hanks 0):=by
 have h4:=ok.l4
 cases hz:(false != (((w 0)==0)&&(((w 1)==0)&&(((w 2)==0)&&(((w 3)==0)&&(((w 4)==0)&&true)))))) with
 | true=>
  simp only [Bool.false_bne,Bool.and_true,Bool.and_eq_true,beq_iff_eq] at hz
  rw [offS_zero]
  ·rfl
  ·intro j h1 h2
   rw [← hw]
   match j,h2 with
   | 0,_=>exact hz.1
   | 1,_=>exact hz.2.1
   | 2,_=>exact hz.2.2.1
   | 3,_=>exact hz.2.2.2.1
   | 4,_=>exact hz.2.2.2.2
   | j+5,h2=>omega
 | false=>
  obtain ⟨e,_,_⟩:=off_loop ok hp hw hby hf b.Hanks 0 0 0 (fun x hx=>hx) (by omega) (by omega) (by omega) (by omega) (by omega)
  rw [show ((0:Nat):Int)=0 from rfl] at e
  rw [e]
  simp [bsm]
theorem cutS_snoc (b:HairBook) (k p:Int):∀ (ps:List Int) (v:Nat),cutS b (ps++[p]) v k=cutS b ps v k+bif decide (p=k) then partN b (v+ps.length) else 0
 | [],v=>by simp [cutS]
 | q::ps,v=>by
  rw [List.cons_append,cutS,cutS_snoc b k p ps (v+1),cutS,List.length_cons,show v+1+ps.length=v+(ps.length+1) by omega]
  omega
end Go.Proofs.YthjogmcdfokihaaDoor
namespace Go.Proofs.YthjogmcdfokihaaDoor
open Go.Abs Go.Proofs.Tp
def runY {A S:Type} (c:A→S→Option (S×Bool)):List A→S→Option (S×Bool)
 | [],s=>some (s,true)
 | a::l,s=>(c a s).bind fun r=>bif r.2 then runY c l r.1 else some (r.1,false)
theorem runY_append {A S:Type} (c:A→S→Option (S×Bool)):∀ (l m:List A) (s:S),runY c (l++m) s=(runY c l s).bind fun r=>bif r.2 then runY c m r.1 else some (r.1,false)
 | [],m,s=>by simp [runY]
 | a::l,m,s=>by
  rw [List.cons_append,runY,runY]
  cases c a s with
  | none=>rfl
  | some r=>
   obtain ⟨s',go⟩:=r
   cases go with
   | false=>rfl
   | true=>exact runY_append c l m s'
theorem runY_fold {A S X:Type} {B:A→S→Option (Ctl S X)} (g:S→A→S):∀ (l:List A) (s:S),(∀ a s,a∈l→B a s=some (.next (g s a)))→runY (fun a s=>rndC B a s) l (.next s)=some (.next (l.foldl g s),true)
 | [],s,h=>rfl
 | a::l,s,h=>by
  rw [runY]
  simp only [rndC,h a s (by simp),bsm,isNext,cond_true,List.foldl_cons]
  exact runY_fold g l _ (fun x s hx=>h x s (by simp [hx]))
theorem runY_stop {A S X:Type} {B:A→S→Option (Ctl S X)} (r:X) (l:List A) (s:S) (h:∀ a s,B a s=some (.brk r)):runY (fun a s=>rndC B a s) l (.next s)=some (match l with | []=>(.next s,true) | _::_=>(.brk r,false)):=by
 cases l with
 | nil=>rfl
 | cons a l=>
  rw [runY]
  simp only [rndC,h a s,bsm,isNext]
  rfl
def tr (K:Nat) (ok:List Int→Bool):Nat→List Int→List (List Int)
 | 0,p=>bif ok p then [p] else []
 | n+1,p=>bif ok p then (List.range' 0 K).flatMap fun (k:Nat)=>tr K ok n (p++[(k:Int)]) else []
def allp (K:Nat):Nat→List Int→List (List Int)
 | 0,p=>[p]
 | n+1,p=>(List.range' 0 K).flatMap fun (k:Nat)=>allp K n (p++[(k:Int)])
theorem mem_allp {K:Nat} {q:List Int}:∀ {n:Nat} {p:List Int},q∈allp K n p↔∃ l,q=p++l∧l.length=n∧∀ x,x∈l→0≤x∧x<K
 | 0,p=>by
  rw [allp,List.mem_singleton]
  constructor
  ·rintro rfl;exact ⟨[],by simp,rfl,by simp⟩
  ·rintro ⟨l,h1,h2,h3⟩
   rw [List.length_eq_zero_iff.1 h2] at h1;simpa using h1
 | n+1,p=>by
  rw [allp,List.mem_flatMap]
  constructor
  ·rintro ⟨k,hk,hq⟩
   rw [List.mem_range'_1] at hk
   obtain ⟨l,h1,h2,h3⟩:=mem_allp.1 hq
   refine ⟨(k:Int)::l,by rw [h1];simp,by simp [h2],fun x hx=>?_⟩
   rcases List.mem_cons.1 hx with rfl | hx
   ·omega
   ·exact h3 x hx
  ·rintro ⟨l,h1,h2,h3⟩
   cases l with
   | nil=>simp at h2
   | cons x l=>
    have hx:=h3 x (by simp)
    refine ⟨x.toNat,by rw [List.mem_range'_1];omega,mem_allp.2 ⟨l,?_,by simpa using h2,fun y hy=>h3 y (by simp [hy])⟩⟩
    rw [show ((x.toNat:Nat):Int)=x by omega,h1];simp
theorem allp_pre {K:Nat} {ok:List Int→Bool} (hok:∀ p k,ok (p++[k])=true→ok p=true) {q:List Int}:∀ {n:Nat} {p:List Int},q∈allp K n p→ok q=true→ok p=true
 | 0,p,h,hq=>by
  rw [allp,List.mem_singleton] at h
  rw [← h];exact hq
 | n+1,p,h,hq=>by
  rw [allp,List.mem_flatMap] at h
  obtain ⟨k,_,h⟩:=h
  exact hok _ _ (allp_pre hok h hq)
theorem tr_eq {K:Nat} {ok:List Int→Bool} (hok:∀ p k,ok (p++[k])=true→ok p=true):∀ (n:Nat) (p:List Int),tr K ok n p=(allp K n p).filter ok
 | 0,p=>by
  rw [tr,allp,List.filter_cons]
  cases ok p<;>rfl
 | n+1,p=>by
  rw [tr]
  cases hp:ok p with
  | true=>
   rw [cond_true,allp,List.filter_flatMap]
   congr 1
   funext k
   exact tr_eq hok n _
  | false=>
   rw [cond_false,Eq.comm,List.filter_eq_nil_iff]
   intro q hq hc
   have:=allp_pre hok hq hc
   rw [hp] at this;cases this
theorem eachC_run {α A S:Type} {f:Int→α→S→Option (Ctl S (Bool×S))} (c:A→S→Option (S×Bool)) (L:Nat→List A):∀ (xs:List α) (i:Nat) (s:S),(∀ (j:Nat) x s,i≤j→xs[j - i]?=some x→f (j:Int) x s=(runY c (L j) s).map fun r=>bif r.2 then .next r.1 else .brk (false,r.1)) →
  eachC f xs (i:Int) s=(runY c ((List.range' i xs.length).flatMap L) s).map fun r=>bif r.2 then .next r.1 else .brk (false,r.1)
 | [],i,s,h=>rfl
 | x::xs,i,s,h=>by
  rw [eachC,h i x s (Nat.le_refl _) (by simp),List.length_cons,List.range'_succ,List.flatMap_cons,runY_append]
  cases runY c (L i) s with
  | none=>rfl
  | some r=>
   obtain ⟨s',go⟩:=r
   cases go with
   | false=>rfl
   | true=>
    simp only [Option.map_some,bsm,cond_true]
    rw [show (i:Int)+1=((i+1:Nat):Int) by omega]
    exact eachC_run c L xs (i+1) s' (fun j y s hj hy=>h j y s (by omega) (by
     have:j - i=(j - (i+1))+1:=by omega
     rw [this,List.getElem?_cons_succ];exact hy))
def shH (b:HairBook) (i:Nat):Int:=match b.Horses[i]? with | some x=>x.Shade | none=>0
def dyeQ (b:HairBook) (p:List Int):Bool:=(List.range (p.length / 2)).all fun i=>(dyesF b (shH b i) ((p[2*i]?).getD 0) ((p[2*i+1]?).getD 0)).isSome
def fitP (b:HairBook) (by_:Span→Int) (p:List Int):Bool:=b.Hanks.zipIdx.all fun y=>!decide (by_ y.1.Weight<cutS b p 0 (y.2:Int))
def okP (b:HairBook) (by_:Span→Int) (p:List Int):Bool:=fitP b by_ p&&dyeQ b p
theorem fitP_iff {b:HairBook} {by_:Span→Int} {p:List Int}:fitP b by_ p=true↔∀ (k:Nat) x,b.Hanks[k]?=some x→cutS b p 0 (k:Int)≤by_ x.Weight:=by
 unfold fitP
 rw [List.all_eq_true]
 constructor
 ·intro h k x hx
  have:=h (x,k) (by
   rw [List.mem_iff_getElem?]
   exact ⟨k,by rw [List.getElem?_zipIdx,hx];simp⟩)
  simpa using this
 ·intro h y hy
  rw [List.mem_iff_getElem?] at hy
  obtain ⟨k,hk⟩:=hy
  rw [List.getElem?_zipIdx] at hk
  cases hx:b.Hanks[k]? with
  | none=>rw [hx] at hk;cases hk
  | some x=>
   rw [hx] at hk
   simp only [Option.map_some,Option.some.injEq,Nat.zero_add] at hk
   subst hk
   have:=h k x hx
   simpa using this
theorem all_congr {α:Type} {f g:α→Bool}:∀ {l:List α},(∀ x,x∈l→f x=g x)→l.all f=l.all g
 | [],h=>rfl
 | x::l,h=>by rw [List.all_cons,List.all_cons,h x (by simp),all_congr (fun y hy=>h y (by simp [hy]))]
theorem dyeQ_snoc (b:HairBook) (p:List Int) (k:Int):dyeQ b (p++[k])=(dyeQ b p&&bif decide (p.length % 2=1) then (dyesF b (shH b (p.length / 2)) ((p[p.length - 1]?).getD 0) k).isSome else true):=by
 have hc:∀ i,i<p.length / 2→(dyesF b (shH b i) (((p++[k])[2*i]?).getD 0) (((p++[k])[2*i+1]?).getD 0)).isSome=(dyesF b (shH b i) ((p[2*i]?).getD 0) ((p[2*i+1]?).getD 0)).isSome:=fun i hi=>by
  rw [List.getElem?_append_left (by omega),List.getElem?_append_left (by omega)]
 unfold dyeQ
 rw [List.length_append,List.length_singleton]
 by_cases h:p.length % 2=1
 ·rw [decide_eq_true h,cond_true,show (p.length+1) / 2=p.length / 2+1 by omega,List.range_succ,List.all_append,all_congr (fun i hi=>hc i (List.mem_range.1 hi))]
  congr 1
  rw [List.all_cons,List.all_nil,Bool.and_true,List.getElem?_append_left (by omega),List.getElem?_append_right (by omega),show 2*(p.length / 2)+1 - p.length=0 by omega,show 2*(p.length / 2)=p.length - 1 by omega]
  rfl
 ·rw [decide_eq_false h,cond_false,Bool.and_true,show (p.length+1) / 2=p.length / 2 by omega,all_congr (fun i hi=>hc i (List.mem_range.1 hi))]
theorem fitP_snoc {b:HairBook} (ok:OkH b) {by_:Span→Int} {p:List Int} (hp:fitP b by_ p=true) {k:Nat} {x:HairHank} (hx:b.Hanks[k]?=some x):fitP b by_ (p++[(k:Int)])=!decide (by_ x.Weight<cutS b p 0 (k:Int)+partN b p.length):=by
 rw [fitP_iff] at hp
 rw [Bool.eq_iff_iff,fitP_iff]
 simp only [Bool.not_eq_true',decide_eq_false_iff_not,Int.not_lt]
 constructor
 ·intro h
  have:=h k x hx
  rw [cutS_snoc,decide_eq_true rfl,cond_true,Nat.zero_add] at this
  exact this
 ·intro h j y hy
  rw [cutS_snoc,Nat.zero_add]
  by_cases e:(k:Int)=(j:Int)
  ·have:j=k:=by omega
   subst this
   rw [decide_eq_true rfl,cond_true]
   rw [hx] at hy;cases hy;exact h
  ·rw [decide_eq_false e,cond_false]
   have:=hp j y hy
   omega
theorem okP_snoc {b:HairBook} (ok:OkH b) {by_:Span→Int} {p:List Int} (hp:okP b by_ p=true) {k:Nat} {x:HairHank} (hx:b.Hanks[k]?=some x):okP b by_ (p++[(k:Int)])=(!decide (by_ x.Weight<cutS b p 0 (k:Int)+partN b p.length)&&bif decide (p.length % 2=1) then (dyesF b (shH b (p.length / 2)) ((p[p.length - 1]?).getD 0) (k:Int)).isSome else true):=by
 unfold okP at hp ⊢
 rw [Bool.and_eq_true] at hp
 rw [fitP_snoc ok hp.1 hx,dyeQ_snoc,hp.2,Bool.true_and]
theorem fitP_pre {b:HairBook} (ok:OkH b) {by_:Span→Int} {p:List Int} {k:Int} (h:fitP b by_ (p++[k])=true):fitP b by_ p=true:=by
 rw [fitP_iff] at h ⊢
 intro j x hx
 have:=h j x hx
 rw [cutS_snoc,Nat.zero_add] at this
 have hb:=partN_bd ok p.length
 cases hd:decide (k=(j:Int))<;>rw [hd] at this<;>simp only [cond_true,cond_false] at this<;>omega
theorem okP_pre {b:HairBook} (ok:OkH b) {by_:Span→Int} (p:List Int) (k:Int) (h:okP b by_ (p++[k])=true):okP b by_ p=true:=by
 unfold okP at h ⊢
 rw [Bool.and_eq_true] at h ⊢
 refine ⟨fitP_pre ok h.1,?_⟩
 rw [dyeQ_snoc,Bool.and_eq_true] at h
 exact h.2.1
def cutF (b:HairBook) (p:List Int):Nat→Int:=fun k=>cutS b p 0 (k:Int)
theorem p112 {S:Type} (c:List Int→(Nat→Int)→S→Option (S×Bool)) {b:HairBook} (ok:OkH b) {mf:List (Hair_dye×Span)} (hmf:ShOk b mf):∀ (n fuel:Nat) (p:List Int) (s:S),p.length+n=2*b.Horses.length→n+1≤fuel→(∀ x,x∈p→0≤x∧x<b.Hanks.length)→okP b (·.Low) p=true →
  g64 c fuel p (cutF b p) b mf b mf s=(runY (fun q s=>c q (cutF b q) s) (tr b.Hanks.length (okP b (·.Low)) n p) s).map fun r=>(r.2,r.1)
 | 0,fuel,p,s,hl,hf,hr,ho=>by
  have h3:=ok.l3
  obtain ⟨fuel,rfl⟩:∃ j,fuel=j+1:=⟨fuel - 1,by omega⟩
  rw [g64,wr_in (by omega) (by omega),decide_eq_true (show (p.length:Int)=2*(b.Horses.length:Int) by omega),cond_true,tr,ho,cond_true,runY]
  cases c p (cutF b p) s with
  | none=>rfl
  | some r=>obtain ⟨s',go⟩:=r;cases go<;>rfl
 | n+1,fuel,p,s,hl,hf,hr,ho=>by
  have h3:=ok.l3
  have h4:=ok.l4
  obtain ⟨fuel,rfl⟩:∃ j,fuel=j+1:=⟨fuel - 1,by omega⟩
  have hlt:p.length / 2<b.Horses.length:=by omega
  have hpn:=partN_bd ok p.length
  have hH:=ok.horses _ (List.getElem_mem hlt)
  rw [g64,wr_in (by omega) (by omega),decide_eq_false (show ¬ (p.length:Int)=2*(b.Horses.length:Int) by omega),cond_false,tdiv_nat,tmod_nat,ixN_nat (show p.length % 2<2 by omega)]
  rw [wr_in (show -9223372036854775808≤((p.length / 2:Nat):Int) by omega) (by omega)]
  rw [ixL_nat,List.getElem?_eq_getElem hlt]
  have key:∀ {X:Option Int} {F:Int→Option (Bool×S)} {R:Option (Bool×S)},X=some (partN b p.length)→F (partN b p.length)=R→X.bind F=R:=by
   intro X F R h1 h2;rw [h1];exact h2
  refine key ?_ ?_
  ·unfold partN
   rw [List.getElem?_eq_getElem hlt]
   have hm:p.length % 2=0∨p.length % 2=1:=by omega
   rcases hm with hm | hm<;>rw [hm]<;>rfl
  have hstep:∀ (j:Nat) (x:HairHank) (s:S),0≤j→b.Hanks[j - 0]?=some x→g64_16 (g64 c fuel) p (cutF b p) b mf b mf (partN b p.length) (j:Int) x s=(runY (fun q s=>c q (cutF b q) s) (tr b.Hanks.length (okP b (·.Low)) n (p++[(j:Int)])) s).map fun r=>bif r.2 then .next r.1 else .brk (false,r.1):=fun j x s _ hx=>by
   rw [Nat.sub_zero] at hx
   have hj:=(List.getElem?_eq_some_iff.1 hx).1
   have hcut:=cutS_bd ok (j:Int) p 0
   have hsn:=okP_snoc ok ho hx
   have hshH:shH b (p.length / 2)=b.Horses[p.length / 2].Shade:=by
    unfold shH;rw [List.getElem?_eq_getElem hlt]
   unfold g64_16
   rw [ixN_nat (show j<5 by omega),bsm]
   simp only [g60,bsm]
   rw [show cutF b p j=cutS b p 0 (j:Int) from rfl,wr_in (show -9223372036854775808≤cutS b p 0 (j:Int)+partN b p.length by omega) (by omega)]
   have hgo:okP b (·.Low) (p++[(j:Int)])=true→(slcL p 0 (p.length:Int)).bind (fun l=>(appL 8 l [(j:Int)]).bind fun l1=>(g64 c fuel l1 (aset (cutF b p) j (cutS b p 0 (j:Int)+partN b p.length)) b mf b mf s).bind fun (r:Bool×S)=>bif (!r.1) then some (.brk (false,r.2)) else some (.next r.2))=(runY (fun q s=>c q (cutF b q) s) (tr b.Hanks.length (okP b (·.Low)) n (p++[(j:Int)])) s).map fun r=>bif r.2 then (.next r.1:Ctl S (Bool×S)) else .brk (false,r.1):=fun hk=>by
    rw [slcL_all,bsm,appL_ok (by rw [List.length_append,List.length_singleton];omega),bsm]
    have hw:aset (cutF b p) j (cutS b p 0 (j:Int)+partN b p.length)=cutF b (p++[(j:Int)]):=by
     funext i
     rw [aset_get]
     unfold cutF
     rw [cutS_snoc,Nat.zero_add]
     by_cases e:i=j
     ·subst e;rw [if_pos rfl,decide_eq_true rfl,cond_true]
     ·rw [if_neg e,decide_eq_false (by omega),cond_false,Int.add_zero]
    rw [hw,p112 c ok hmf n fuel (p++[(j:Int)]) s (by rw [List.length_append,List.length_singleton];omega) (by omega) (fun x hx=>by
     rcases List.mem_append.1 hx with hx | hx
     ·exact hr x hx
     ·rw [List.mem_singleton] at hx;omega) hk]
    cases runY (fun q s=>c q (cutF b q) s) (tr b.Hanks.length (okP b (·.Low)) n (p++[(j:Int)])) s with
    | none=>rfl
    | some r=>obtain ⟨s',go⟩:=r;cases go<;>rfl
   have hno:okP b (·.Low) (p++[(j:Int)])=false→(some (.next s):Option (Ctl S (Bool×S)))=(runY (fun q s=>c q (cutF b q) s) (tr b.Hanks.length (okP b (·.Low)) n (p++[(j:Int)])) s).map fun r=>bif r.2 then .next r.1 else .brk (false,r.1):=fun hk=>by
    have:tr b.Hanks.length (okP b (·.Low)) n (p++[(j:Int)])=[]:=by
     cases n<;>rw [tr,hk]<;>rfl
    rw [this];rfl
   by_cases h1:x.Weight.Low<cutS b p 0 (j:Int)+partN b p.length
   ·rw [decide_eq_true h1] at hsn ⊢
    simp only [cond_true,bindC]
    exact hno (by rw [hsn];rfl)
   ·rw [decide_eq_false h1] at hsn ⊢
    simp only [cond_false,Bool.not_false,Bool.true_and] at hsn ⊢
    by_cases h2:p.length % 2=1
    ·have hlast:p.length - 1<p.length:=by omega
     have hlr:=hr _ (List.getElem_mem hlast)
     rw [decide_eq_true h2,cond_true,List.getElem?_eq_getElem hlast,Option.getD_some,hshH] at hsn
     rw [tmod_nat,tdiv_nat,wr_in (show -9223372036854775808≤((p.length / 2:Nat):Int) by omega) (by omega),decide_eq_true (show ((p.length % 2:Nat):Int)=1 by omega),cond_true,wr_in (show -9223372036854775808≤(p.length:Int) - 1 by omega) (by omega),show (p.length:Int) - 1=((p.length - 1:Nat):Int) by omega,ixL_nat,List.getElem?_eq_getElem hlast,bsm,g45,p59 ok hmf (horse:=((p.length / 2:Nat):Int)) (p:=b.Horses[p.length / 2]) (by rw [ixL_nat,List.getElem?_eq_getElem hlt]) hH.2.2 hlr.1 hlr.2 (show (0:Int)≤(j:Int) by omega) (by omega)]
     cases hd:dyesF b b.Horses[p.length / 2].Shade p[p.length - 1] (j:Int) with
     | none=>
      rw [hd] at hsn
      simp only [bsm,Bool.not_false,cond_true,bindC]
      exact hno hsn
     | some d=>
      rw [hd] at hsn
      simp only [bsm,Bool.not_true,cond_false,bindC]
      exact hgo hsn
    ·rw [decide_eq_false h2,cond_false] at hsn
     rw [tmod_nat,decide_eq_false (show ¬ ((p.length % 2:Nat):Int)=1 by omega),cond_false]
     simp only [bindC,bsm]
     exact hgo hsn
  have:=eachC_run (f:=g64_16 (g64 c fuel) p (cutF b p) b mf b mf (partN b p.length)) (fun q s=>c q (cutF b q) s) (fun j=>tr b.Hanks.length (okP b (·.Low)) n (p++[(j:Int)])) b.Hanks 0 s hstep
  rw [show ((0:Nat):Int)=0 from rfl] at this
  rw [this,tr,ho,cond_true]
  cases runY (fun q s=>c q (cutF b q) s) ((List.range' 0 b.Hanks.length).flatMap fun (k:Nat)=>tr b.Hanks.length (okP b (·.Low)) n (p++[(k:Int)])) s with
  | none=>rfl
  | some r=>obtain ⟨s',go⟩:=r;cases go<;>rfl
theorem p112a {S:Type} (c:List Int→(Nat→Int)→S→Option (S×Bool)) {b:HairBook} (ok:OkH b) {mf:List (Hair_dye×Span)} (hmf:ShOk b mf):∀ (n fuel:Nat) (p:List Int) (s:S),p.length+n=2*b.Horses.length→n+1≤fuel→(∀ x,x∈p→0≤x∧x<b.Hanks.length)→okP b (·.High) p=true →
  g64a c fuel p (cutF b p) b mf b mf s=(runY (fun q s=>c q (cutF b q) s) (tr b.Hanks.length (okP b (·.High)) n p) s).map fun r=>(r.2,r.1)
 | 0,fuel,p,s,hl,hf,hr,ho=>by
  have h3:=ok.l3
  obtain ⟨fuel,rfl⟩:∃ j,fuel=j+1:=⟨fuel - 1,by omega⟩
  rw [g64a,wr_in (by omega) (by omega),decide_eq_true (show (p.length:Int)=2*(b.Horses.length:Int) by omega),cond_true,tr,ho,cond_true,runY]
  cases c p (cutF b p) s with
  | none=>rfl
  | some r=>obtain ⟨s',go⟩:=r;cases go<;>rfl
 | n+1,fuel,p,s,hl,hf,hr,ho=>by
  have h3:=ok.l3
  have h4:=ok.l4
  obtain ⟨fuel,rfl⟩:∃ j,fuel=j+1:=⟨fuel - 1,by omega⟩
  have hlt:p.length / 2<b.Horses.length:=by omega
  have hpn:=partN_bd ok p.length
  have hH:=ok.horses _ (List.getElem_mem hlt)
  rw [g64a,wr_in (by omega) (by omega),decide_eq_false (show ¬ (p.length:Int)=2*(b.Horses.length:Int) by omega),cond_false,tdiv_nat,tmod_nat,ixN_nat (show p.length % 2<2 by omega)]
  rw [wr_in (show -9223372036854775808≤((p.length / 2:Nat):Int) by omega) (by omega)]
  rw [ixL_nat,List.getElem?_eq_getElem hlt]
  have key:∀ {X:Option Int} {F:Int→Option (Bool×S)} {R:Option (Bool×S)},X=some (partN b p.length)→F (partN b p.length)=R→X.bind F=R:=by
   intro X F R h1 h2;rw [h1];exact h2
  refine key ?_ ?_
  ·unfold partN
   rw [List.getElem?_eq_getElem hlt]
   have hm:p.length % 2=0∨p.length % 2=1:=by omega
   rcases hm with hm | hm<;>rw [hm]<;>rfl
  have hstep:∀ (j:Nat) (x:HairHank) (s:S),0≤j→b.Hanks[j - 0]?=some x→g64a_16 (g64a c fuel) p (cutF b p) b mf b mf (partN b p.length) (j:Int) x s=(runY (fun q s=>c q (cutF b q) s) (tr b.Hanks.length (okP b (·.High)) n (p++[(j:Int)])) s).map fun r=>bif r.2 then .next r.1 else .brk (false,r.1):=fun j x s _ hx=>by
   rw [Nat.sub_zero] at hx
   have hj:=(List.getElem?_eq_some_iff.1 hx).1
   have hcut:=cutS_bd ok (j:Int) p 0
   have hsn:=okP_snoc ok ho hx
   have hshH:shH b (p.length / 2)=b.Horses[p.length / 2].Shade:=by
    unfold shH;rw [List.getElem?_eq_getElem hlt]
   unfold g64a_16
   rw [ixN_nat (show j<5 by omega),bsm]
   simp only [g61,bsm]
   rw [show cutF b p j=cutS b p 0 (j:Int) from rfl,wr_in (show -9223372036854775808≤cutS b p 0 (j:Int)+partN b p.length by omega) (by omega)]
   have hgo:okP b (·.High) (p++[(j:Int)])=true→(slcL p 0 (p.length:Int)).bind (fun l=>(appL 8 l [(j:Int)]).bind fun l1=>(g64a c fuel l1 (aset (cutF b p) j (cutS b p 0 (j:Int)+partN b p.length)) b mf b mf s).bind fun (r:Bool×S)=>bif (!r.1) then some (.brk (false,r.2)) else some (.next r.2))=(runY (fun q s=>c q (cutF b q) s) (tr b.Hanks.length (okP b (·.High)) n (p++[(j:Int)])) s).map fun r=>bif r.2 then (.next r.1:Ctl S (Bool×S)) else .brk (false,r.1):=fun hk=>by
    rw [slcL_all,bsm,appL_ok (by rw [List.length_append,List.length_singleton];omega),bsm]
    have hw:aset (cutF b p) j (cutS b p 0 (j:Int)+partN b p.length)=cutF b (p++[(j:Int)]):=by
     funext i
     rw [aset_get]
     unfold cutF
     rw [cutS_snoc,Nat.zero_add]
     by_cases e:i=j
     ·subst e;rw [if_pos rfl,decide_eq_true rfl,cond_true]
     ·rw [if_neg e,decide_eq_false (by omega),cond_false,Int.add_zero]
    rw [hw,p112a c ok hmf n fuel (p++[(j:Int)]) s (by rw [List.length_append,List.length_singleton];omega) (by omega) (fun x hx=>by
     rcases List.mem_append.1 hx with hx | hx
     ·exact hr x hx
     ·rw [List.mem_singleton] at hx;omega) hk]
    cases runY (fun q s=>c q (cutF b q) s) (tr b.Hanks.length (okP b (·.High)) n (p++[(j:Int)])) s with
    | none=>rfl
    | some r=>obtain ⟨s',go⟩:=r;cases go<;>rfl
   have hno:okP b (·.High) (p++[(j:Int)])=false→(some (.next s):Option (Ctl S (Bool×S)))=(runY (fun q s=>c q (cutF b q) s) (tr b.Hanks.length (okP b (·.High)) n (p++[(j:Int)])) s).map fun r=>bif r.2 then .next r.1 else .brk (false,r.1):=fun hk=>by
    have:tr b.Hanks.length (okP b (·.High)) n (p++[(j:Int)])=[]:=by
     cases n<;>rw [tr,hk]<;>rfl
    rw [this];rfl
   by_cases h1:x.Weight.High<cutS b p 0 (j:Int)+partN b p.length
   ·rw [decide_eq_true h1] at hsn ⊢
    simp only [cond_true,bindC]
    exact hno (by rw [hsn];rfl)
   ·rw [decide_eq_false h1] at hsn ⊢
    simp only [cond_false,Bool.not_false,Bool.true_and] at hsn ⊢
    by_cases h2:p.length % 2=1
    ·have hlast:p.length - 1<p.length:=by omega
     have hlr:=hr _ (List.getElem_mem hlast)
     rw [decide_eq_true h2,cond_true,List.getElem?_eq_getElem hlast,Option.getD_some,hshH] at hsn
     rw [tmod_nat,tdiv_nat,wr_in (show -9223372036854775808≤((p.length / 2:Nat):Int) by omega) (by omega),decide_eq_true (show ((p.length % 2:Nat):Int)=1 by omega),cond_true,wr_in (show -9223372036854775808≤(p.length:Int) - 1 by omega) (by omega),show (p.length:Int) - 1=((p.length - 1:Nat):Int) by omega,ixL_nat,List.getElem?_eq_getElem hlast,bsm,g45,p59 ok hmf (horse:=((p.length / 2:Nat):Int)) (p:=b.Horses[p.length / 2]) (by rw [ixL_nat,List.getElem?_eq_getElem hlt]) hH.2.2 hlr.1 hlr.2 (show (0:Int)≤(j:Int) by omega) (by omega)]
     cases hd:dyesF b b.Horses[p.length / 2].Shade p[p.length - 1] (j:Int) with
     | none=>
      rw [hd] at hsn
      simp only [bsm,Bool.not_false,cond_true,bindC]
      exact hno hsn
     | some d=>
      rw [hd] at hsn
      simp only [bsm,Bool.not_true,cond_false,bindC]
      exact hgo hsn
    ·rw [decide_eq_false h2,cond_false] at hsn
     rw [tmod_nat,decide_eq_false (show ¬ ((p.length % 2:Nat):Int)=1 by omega),cond_false]
     simp only [bindC,bsm]
     exact hgo hsn
  have:=eachC_run (f:=g64a_16 (g64a c fuel) p (cutF b p) b mf b mf (partN b p.length)) (fun q s=>c q (cutF b q) s) (fun j=>tr b.Hanks.length (okP b (·.High)) n (p++[(j:Int)])) b.Hanks 0 s hstep
  rw [show ((0:Nat):Int)=0 from rfl] at this
  rw [this,tr,ho,cond_true]
  cases runY (fun q s=>c q (cutF b q) s) ((List.range' 0 b.Hanks.length).flatMap fun (k:Nat)=>tr b.Hanks.length (okP b (·.High)) n (p++[(k:Int)])) s with
  | none=>rfl
  | some r=>obtain ⟨s',go⟩:=r;cases go<;>rfl
def plansL (b:HairBook) (by_:Span→Int):List (List Int):=(allp b.Hanks.length (2*b.Horses.length) []).filter (okP b by_)
theorem okP_nil {b:HairBook} {by_:Span→Int} (h:∀ x,x∈b.Hanks→0≤by_ x.Weight):okP b by_ []=true:=by
 unfold okP
 rw [Bool.and_eq_true]
 refine ⟨fitP_iff.2 fun k x hx=>?_,rfl⟩
 have:=h x (List.mem_of_getElem? hx)
 simp only [cutS];exact this
theorem cutF_nil (b:HairBook):arrL [(0:Int),0,0,0,0]=cutF b []:=by
 funext k
 match k with
 | 0=>rfl
 | 1=>rfl
 | 2=>rfl
 | 3=>rfl
 | 4=>rfl
 | k+5=>rfl
theorem p111 {S:Type} (c:List Int→(Nat→Int)→S→Option (S×Bool)) {b:HairBook} (ok:OkH b) {mf:List (Hair_dye×Span)} (hmf:ShOk b mf) (s:S):g63 c b mf b mf s=(runY (fun q s=>c q (cutF b q) s) (plansL b (·.Low)) s).map (·.1):=by
 have h3:=ok.l3
 unfold g63 g59
 rw [bsm,cutF_nil b,p112 c ok hmf (2*b.Horses.length) 1000 [] s (by simp) (by omega) (by simp) (okP_nil fun x hx=>by have:=(ok.hanks x hx).w;omega),tr_eq (okP_pre ok)]
 unfold plansL
 cases runY (fun q s=>c q (cutF b q) s) ((allp b.Hanks.length (2*b.Horses.length) []).filter (okP b (·.Low))) s<;>rfl
theorem p111a {S:Type} (c:List Int→(Nat→Int)→S→Option (S×Bool)) {b:HairBook} (ok:OkH b) {mf:List (Hair_dye×Span)} (hmf:ShOk b mf) (s:S):g63a c b mf b mf s=(runY (fun q s=>c q (cutF b q) s) (plansL b (·.High)) s).map (·.1):=by
 have h3:=ok.l3
 unfold g63a g59
 rw [bsm,cutF_nil b,p112a c ok hmf (2*b.Horses.length) 1000 [] s (by simp) (by omega) (by simp) (okP_nil fun x hx=>by have:=(ok.hanks x hx).w;omega),tr_eq (okP_pre ok)]
 unfold plansL
 cases runY (fun q s=>c q (cutF b q) s) ((allp b.Hanks.length (2*b.Horses.length) []).filter (okP b (·.High))) s<;>rfl
def servedB (b:HairBook):Bool:=!(plansL b (·.Low)).isEmpty
theorem p84 {b:HairBook} (ok:OkH b) {mf:List (Hair_dye×Span)} (hmf:ShOk b mf):g42 b mf=some (servedB b):=by
 unfold g42 g39 g44
 rw [bsm,bsm]
 simp only
 rw [p111 _ ok hmf]
 have:=runY_stop (B:=fun q u=>g42_r5 (q,cutF b q) u) (X:=Unit) () (plansL b (·.Low)) () (fun a s=>rfl)
 unfold servedB
 have e:runY (fun q s=>rndC g42_r5 (q,cutF b q) s) (plansL b (·.Low)) (.next ())=runY (fun a s=>rndC (fun q u=>g42_r5 (q,cutF b q) u) a s) (plansL b (·.Low)) (.next ()):=by
  congr 1
 rw [e,this]
 cases plansL b (·.Low)<;>rfl
theorem dyeQ_full {b:HairBook} {p:List Int} (hp:p.length=2*b.Horses.length):dyeQ b p=dyeK b p:=by
 unfold dyeQ dyeK
 rw [hp,show 2*b.Horses.length / 2=b.Horses.length by omega,Bool.eq_iff_iff,List.all_eq_true,List.all_eq_true]
 constructor
 ·intro h y hy
  rw [List.mem_iff_getElem?] at hy
  obtain ⟨k,hk⟩:=hy
  rw [List.getElem?_zipIdx] at hk
  cases hx:b.Horses[k]? with
  | none=>rw [hx] at hk;cases hk
  | some x=>
   rw [hx] at hk
   simp only [Option.map_some,Option.some.injEq,Nat.zero_add] at hk
   subst hk
   have:=h k (List.mem_range.2 (List.getElem?_eq_some_iff.1 hx).1)
   unfold shH at this
   rw [hx] at this
   exact this
 ·intro h k hk
  have hlt:=List.mem_range.1 hk
  have:=h (b.Horses[k],k) (by
   rw [List.mem_iff_getElem?]
   exact ⟨k,by rw [List.getElem?_zipIdx,List.getElem?_eq_getElem hlt];simp⟩)
  unfold shH
  rw [List.getElem?_eq_getElem hlt]
  exact this
theorem planB_iff {b:HairBook} {p:List Int}:planB b p=true↔p.length=2*b.Horses.length∧∀ n,n∈p→0≤n∧n<b.Hanks.length:=by
 constructor
 ·intro h;have:=plan_of h;exact ⟨this.len,this.rng⟩
 ·rintro ⟨h1,h2⟩
  simp only [planB,Bool.and_eq_true,decide_eq_true_eq,List.all_eq_true,rg_iff]
  exact ⟨by omega,fun n hn=>by have:=h2 n hn;omega⟩
theorem mem_allP {b:HairBook} {p:List Int}:p∈allp b.Hanks.length (2*b.Horses.length) []↔planB b p=true:=by
 rw [mem_allp,planB_iff]
 constructor
 ·rintro ⟨l,h1,h2,h3⟩
  rw [List.nil_append] at h1
  subst h1;exact ⟨h2,h3⟩
 ·rintro ⟨h1,h2⟩;exact ⟨p,rfl,h1,h2⟩
theorem mem_plans {b:HairBook} {p:List Int}:p∈plansL b (·.Low)↔planB b p=true∧worksB b p=true:=by
 unfold plansL
 rw [List.mem_filter,mem_allP]
 constructor
 ·rintro ⟨h1,h2⟩
  refine ⟨h1,?_⟩
  unfold okP at h2
  rw [dyeQ_full (planB_iff.1 h1).1] at h2
  exact h2
 ·rintro ⟨h1,h2⟩
  refine ⟨h1,?_⟩
  unfold okP
  rw [dyeQ_full (planB_iff.1 h1).1]
  exact h2
theorem served_iff {b:HairBook}:servedB b=true↔∃ p,planB b p=true∧worksB b p=true:=by
 unfold servedB
 constructor
 ·intro h
  cases hl:plansL b (·.Low) with
  | nil=>rw [hl] at h;cases h
  | cons p l=>exact ⟨p,mem_plans.1 (by rw [hl];simp)⟩
 ·rintro ⟨p,hp⟩
  cases hl:plansL b (·.Low) with
  | nil=>have:=mem_plans.2 hp;rw [hl] at this;cases this
  | cons q l=>rfl
end Go.Proofs.YthjogmcdfokihaaDoor
namespace Go.Proofs.YthjogmcdfokihaaDoor
open Go.Abs Go.Proofs.Tp
def offHi (b:HairBook) (q:List Int):Int:=offS b q (·.High) b.Hanks 0
def bestStep (b:HairBook) (s:List Int×Int×Bool) (q:List Int):List Int×Int×Bool:=bif !s.2.2||decide (offHi b q<s.2.1) then (q,offHi b q,true) else s
def bestT (b:HairBook):List Int×Int×Bool:=(plansL b (·.Low)).foldl (bestStep b) ([],0,false)
def bestO (b:HairBook):Option (List Int):=bif (bestT b).2.2 then some (bestT b).1 else none
def BestI (b:HairBook) (pre:List (List Int)) (s:List Int×Int×Bool):Prop:=(pre=[]∧s=([],0,false))∨∃ l1 p l2,pre=l1++p::l2∧s=(p,offHi b p,true)∧(∀ q,q∈l1→offHi b p<offHi b q)∧∀ q,q∈l2→offHi b p≤offHi b q
theorem best_step {b:HairBook} {pre:List (List Int)} {s:List Int×Int×Bool} (h:BestI b pre s) (q:List Int):BestI b (pre++[q]) (bestStep b s q):=by
 rcases h with ⟨rfl,rfl⟩ | ⟨l1,p,l2,rfl,rfl,h1,h2⟩
 ·exact .inr ⟨[],q,[],rfl,rfl,by simp,by simp⟩
 ·unfold bestStep
  simp only [Bool.not_true,Bool.false_or]
  by_cases h:offHi b q<offHi b p
  ·rw [decide_eq_true h,cond_true]
   refine .inr ⟨l1++p::l2,q,[],rfl,rfl,fun x hx=>?_,by simp⟩
   rcases List.mem_append.1 hx with hx | hx
   ·have:=h1 x hx;omega
   ·rcases List.mem_cons.1 hx with rfl | hx
    ·exact h
    ·have:=h2 x hx;omega
  ·rw [decide_eq_false h,cond_false]
   refine .inr ⟨l1,p,l2++[q],by simp,rfl,h1,fun x hx=>?_⟩
   rcases List.mem_append.1 hx with hx | hx
   ·exact h2 x hx
   ·rw [List.mem_singleton] at hx;subst hx;omega
theorem best_fold {b:HairBook}:∀ (l pre:List (List Int)) (s:List Int×Int×Bool),BestI b pre s→BestI b (pre++l) (l.foldl (bestStep b) s)
 | [],pre,s,h=>by simpa using h
 | q::l,pre,s,h=>by
  rw [List.foldl_cons,show pre++q::l=(pre++[q])++l by simp]
  exact best_fold l _ _ (best_step h q)
theorem bestO_spec (b:HairBook):(bestO b=none∧plansL b (·.Low)=[])∨∃ p l1 l2,bestO b=some p∧plansL b (·.Low)=l1++p::l2∧(∀ q,q∈l1→offHi b p<offHi b q)∧∀ q,q∈l2→offHi b p≤offHi b q:=by
 have:=best_fold (b:=b) (plansL b (·.Low)) [] ([],0,false) (.inl ⟨rfl,rfl⟩)
 rw [List.nil_append] at this
 unfold bestO bestT
 rcases this with ⟨h1,h2⟩ | ⟨l1,p,l2,h1,h2,h3,h4⟩
 ·left
  rw [h2]
  exact ⟨rfl,h1⟩
 ·right
  rw [h2]
  exact ⟨p,l1,l2,rfl,h1,h3,h4⟩
theorem bestO_none {b:HairBook} (h:bestO b=none):servedB b=false:=by
 rcases bestO_spec b with ⟨_,h2⟩ | ⟨p,l1,l2,h1,_⟩
 ·unfold servedB;rw [h2];rfl
 ·rw [h] at h1;cases h1
theorem bestO_some {b:HairBook} {p:List Int} (h:bestO b=some p):planB b p=true∧worksB b p=true:=by
 rcases bestO_spec b with ⟨h1,_⟩ | ⟨q,l1,l2,h1,h2,_⟩
 ·rw [h] at h1;cases h1
 ·rw [h] at h1;cases h1
  exact mem_plans.1 (by rw [h2];simp)
theorem p81 {b:HairBook} (ok:OkH b) {mf:List (Hair_dye×Span)} (hmf:ShOk b mf):g32 b mf=some ((bestT b).1,(bestT b).2.2):=by
 unfold g32 g39 g44
 rw [bsm,bsm]
 simp only
 rw [p111 _ ok hmf]
 have:=runY_fold (B:=fun q u=>g32_r5 b mf (q,cutF b q) u) (X:=Unit) (bestStep b) (plansL b (·.Low)) ([],0,false) (fun q s hq=>by
  have hp:=plan_of (mem_plans.1 hq).1
  obtain ⟨v,v1,v2⟩:=s
  have e:g38 b mf (cutF b q)=some (offHi b q):=p75_core ok hp (w:=cutF b q) (fun k=>rfl) (fun x hx=>by have:=(ok.hanks x hx).w;omega) (fun k x n=>rfl)
  unfold g32_r5 bestStep
  simp only [g40,e,bsm]
  cases (!v2||decide (offHi b q<v1))<;>rfl)
 have e:runY (fun q s=>rndC (g32_r5 b mf) (q,cutF b q) s) (plansL b (·.Low)) (.next ([],0,false))=runY (fun a s=>rndC (fun q u=>g32_r5 b mf (q,cutF b q) u) a s) (plansL b (·.Low)) (.next ([],0,false)):=by
  congr 1
 rw [e,this]
 rfl
def bestR (b:HairBook):List Int×Int:=bif okH b then (match bestO b with | some p=>(p,0) | none=>([],4)) else ([],60)
theorem p26 (b:HairBook):g11 b=some (bestR b):=by
 unfold g11 bestR
 rw [p17,bsm]
 cases hok:okH b with
 | false=>rfl
 | true=>
  have ok:=okH_of hok
  obtain ⟨mf,e80,hmf⟩:=p80 ok
  simp only [cond_true,ne_eq,not_true_eq_false,decide_false,cond_false,e80,bsm,p81 ok hmf]
  unfold bestO
  cases (bestT b).2.2 with
  | false=>rfl
  | true=>simp only [Bool.not_true,cond_false,cond_true,slcL_all,bsm]
theorem dyesF_some {b:HairBook} {want mane tail:Int} {d:Int×Int} (h:dyesF b want mane tail=some d):0≤d.1∧d.1≤b.Dark∧0≤d.2∧d.2≤b.Dark∧mB b want mane tail d.1 d.2=true:=by
 unfold dyesF at h
 cases hf:firstI (fun m=>(firstI (fun t=>mB b want mane tail m t) (b.Dark+1).toNat 0).isSome) (b.Dark+1).toNat 0 with
 | none=>rw [hf] at h;cases h
 | some m=>
  rw [hf] at h
  obtain ⟨m1,m2,m3,_⟩:=firstI_some hf
  cases hg:firstI (fun t=>mB b want mane tail m t) (b.Dark+1).toNat 0 with
  | none=>rw [hg] at m3;cases m3
  | some t=>
   obtain ⟨t1,t2,t3,_⟩:=firstI_some hg
   rw [Option.map_some,hg] at h
   cases h
   exact ⟨m1,by omega,t1,by simp only [Option.getD_some];omega,t3⟩
end Go.Proofs.YthjogmcdfokihaaDoor
namespace Go.Proofs.YthjogmcdfokihaaDoor
open Go.Abs Go.Proofs.Tp
theorem partN_pos {b:HairBook} (ok:OkH b) {v:Nat} (h:v<2*b.Horses.length):1≤partN b v:=by
 have hlt:v / 2<b.Horses.length:=by omega
 have hx:=ok.horses _ (List.getElem_mem hlt)
 unfold partN
 rw [List.getElem?_eq_getElem hlt]
 simp only
 cases decide (v % 2=0)<;>simp only [cond_true,cond_false]<;>omega
theorem cutS_pos {b:HairBook} (ok:OkH b) (k:Int):∀ (ps:List Int) (v:Nat),v+ps.length≤2*b.Horses.length→(0<cutS b ps v k↔k∈ps)
 | [],v,h=>by simp [cutS]
 | p::ps,v,h=>by
  simp only [List.length_cons] at h
  have h1:=partN_pos ok (show v<2*b.Horses.length by omega)
  have h2:=cutS_bd ok k ps (v+1)
  have ih:=cutS_pos ok k ps (v+1) (by omega)
  rw [cutS,List.mem_cons]
  by_cases e:p=k
  ·rw [decide_eq_true e,cond_true]
   exact ⟨fun _=>.inl e.symm,fun _=>by omega⟩
  ·rw [decide_eq_false e,cond_false,Int.zero_add,ih]
   exact ⟨fun h=>.inr h,fun h=>h.resolve_left fun h=>e h.symm⟩
end Go.Proofs.YthjogmcdfokihaaDoor
set_option maxRecDepth 100000
namespace Go.Proofs.YthjogmcdfokihaaDoor
open Go Go.Abs Go.Proofs.Tp
def LT (H s:Nat):List Int:=((List.range H).filter fun i=>s.testBit i).map fun (i:Nat)=>(i:Int)
def shr (l m:List Int):Option Bool:=bif decide (l.length=m.length) then (g41 l m).bind fun r=>some (decide (r<0)) else some (decide (l.length<m.length))
def rk (H s:Nat):Nat:=((List.range (2 ^ H)).filter fun t=>shr (LT H t) (LT H s)==some true).length
def keepL (xs:List HairHorse) (l:List Int):List HairHorse:=(xs.zipIdx.filter fun y=>!decide ((y.2:Int)∈l)).map (·.1)
def cmpP (l best:List Int):Option Bool:=bif (decide ((best.length:Int)<(l.length:Int))) then (some true) else (bif (decide ((l.length:Int)=(best.length:Int))) then ((g41 l best).bind fun r0_3=>some (decide (0≤r0_3))) else (some false))
theorem factC:((List.range 4).all fun T=>(List.range (2 ^ T)).all fun s=>(List.range (2 ^ T)).all fun t=>cmpP (LT T s) (LT T t)==some (!decide (rk T s<rk T t)))=true:=by kernel_rfl
theorem factS:((List.range 4).all fun T=>shl64 1 (T:Int)==((2 ^ T:Nat):Int))=true:=by kernel_rfl
theorem factZ:((List.range 4).all fun T=>(LT T 0==[])&&(rk T 0==0)&&((LT T (2 ^ T - 1)).length==T)&&((List.range (2 ^ T)).all fun s=>(s==0)||!((LT T s).length==0)))=true:=by kernel_rfl
theorem all2 {P:Nat→Nat→Bool} (h:((List.range 4).all fun T=>(List.range (2 ^ T)).all fun s=>P T s)=true) {T s:Nat} (hT:T≤3) (hs:s<2 ^ T):P T s=true:=by
 rw [List.all_eq_true] at h
 have:=h T (List.mem_range.2 (by omega))
 rw [List.all_eq_true] at this
 exact this s (List.mem_range.2 hs)
theorem all3 {P:Nat→Nat→Nat→Bool} (h:((List.range 4).all fun T=>(List.range (2 ^ T)).all fun s=>(List.range (2 ^ T)).all fun t=>P T s t)=true) {T s t:Nat} (hT:T≤3) (hs:s<2 ^ T) (ht:t<2 ^ T):P T s t=true:=by
 have:=all2 h hT hs
 rw [List.all_eq_true] at this
 exact this t (List.mem_range.2 ht)
theorem fC {T s t:Nat} (hT:T≤3) (hs:s<2 ^ T) (ht:t<2 ^ T):cmpP (LT T s) (LT T t)=some (!decide (rk T s<rk T t)):=by
 have:=all3 factC hT hs ht
 rw [beq_iff_eq] at this;exact this
theorem fS {T:Nat} (hT:T≤3):shl64 1 (T:Int)=((2 ^ T:Nat):Int):=by
 have:=factS
 rw [List.all_eq_true] at this
 have:=this T (List.mem_range.2 (by omega))
 rw [beq_iff_eq] at this;exact this
theorem fz0 {T:Nat} (hT:T≤3):LT T 0=[]∧rk T 0=0∧(LT T (2 ^ T - 1)).length=T∧∀ s,s<2 ^ T→(LT T s).length=0→s=0:=by
 have:=factZ
 rw [List.all_eq_true] at this
 have:=this T (List.mem_range.2 (by omega))
 rw [Bool.and_eq_true,Bool.and_eq_true,Bool.and_eq_true,beq_iff_eq,beq_iff_eq,beq_iff_eq,List.all_eq_true] at this
 obtain ⟨⟨⟨h1,h2⟩,h3⟩,h4⟩:=this
 refine ⟨h1,h2,h3,fun s hs h=>?_⟩
 have:=h4 s (List.mem_range.2 hs)
 rw [Bool.or_eq_true,beq_iff_eq,h] at this
 simpa using this
theorem pow_pos' (T:Nat):1≤2 ^ T:=Nat.one_le_two_pow
theorem pow_le' {T:Nat} (hT:T≤3):2 ^ T≤8:=Nat.pow_le_pow_right (by decide) hT
theorem ks0_0:eachS (g15_14 0) ([]:List HairHorse) 0 (([],[]):List Int×List HairHorse)=some (LT 0 0,keepL [] (LT 0 0)):=by kernel_rfl
theorem kl0_0:(keepL [] (LT 0 0)).length+(LT 0 0).length=0:=by kernel_rfl
theorem ks1_0 (a:HairHorse):eachS (g15_14 0) ([a]:List HairHorse) 0 (([],[]):List Int×List HairHorse)=some (LT 1 0,keepL [a] (LT 1 0)):=by kernel_rfl
theorem kl1_0 (a:HairHorse):(keepL [a] (LT 1 0)).length+(LT 1 0).length=1:=by kernel_rfl
theorem ks1_1 (a:HairHorse):eachS (g15_14 1) ([a]:List HairHorse) 0 (([],[]):List Int×List HairHorse)=some (LT 1 1,keepL [a] (LT 1 1)):=by kernel_rfl
theorem kl1_1 (a:HairHorse):(keepL [a] (LT 1 1)).length+(LT 1 1).length=1:=by kernel_rfl
theorem ks2_0 (a b:HairHorse):eachS (g15_14 0) ([a,b]:List HairHorse) 0 (([],[]):List Int×List HairHorse)=some (LT 2 0,keepL [a,b] (LT 2 0)):=by kernel_rfl
theorem kl2_0 (a b:HairHorse):(keepL [a,b] (LT 2 0)).length+(LT 2 0).length=2:=by kernel_rfl
theorem ks2_1 (a b:HairHorse):eachS (g15_14 1) ([a,b]:List HairHorse) 0 (([],[]):List Int×List HairHorse)=some (LT 2 1,keepL [a,b] (LT 2 1)):=by kernel_rfl
theorem kl2_1 (a b:HairHorse):(keepL [a,b] (LT 2 1)).length+(LT 2 1).length=2:=by kernel_rfl
theorem ks2_2 (a b:HairHorse):eachS (g15_14 2) ([a,b]:List HairHorse) 0 (([],[]):List Int×List HairHorse)=some (LT 2 2,keepL [a,b] (LT 2 2)):=by kernel_rfl
theorem kl2_2 (a b:HairHorse):(keepL [a,b] (LT 2 2)).length+(LT 2 2).length=2:=by kernel_rfl
theorem ks2_3 (a b:HairHorse):eachS (g15_14 3) ([a,b]:List HairHorse) 0 (([],[]):List Int×List HairHorse)=some (LT 2 3,keepL [a,b] (LT 2 3)):=by kernel_rfl
theorem kl2_3 (a b:HairHorse):(keepL [a,b] (LT 2 3)).length+(LT 2 3).length=2:=by kernel_rfl
theorem ks3_0 (a b c:HairHorse):eachS (g15_14 0) ([a,b,c]:List HairHorse) 0 (([],[]):List Int×List HairHorse)=some (LT 3 0,keepL [a,b,c] (LT 3 0)):=by kernel_rfl
theorem kl3_0 (a b c:HairHorse):(keepL [a,b,c] (LT 3 0)).length+(LT 3 0).length=3:=by kernel_rfl
theorem ks3_1 (a b c:HairHorse):eachS (g15_14 1) ([a,b,c]:List HairHorse) 0 (([],[]):List Int×List HairHorse)=some (LT 3 1,keepL [a,b,c] (LT 3 1)):=by kernel_rfl
theorem kl3_1 (a b c:HairHorse):(keepL [a,b,c] (LT 3 1)).length+(LT 3 1).length=3:=by kernel_rfl
theorem ks3_2 (a b c:HairHorse):eachS (g15_14 2) ([a,b,c]:List HairHorse) 0 (([],[]):List Int×List HairHorse)=some (LT 3 2,keepL [a,b,c] (LT 3 2)):=by kernel_rfl
theorem kl3_2 (a b c:HairHorse):(keepL [a,b,c] (LT 3 2)).length+(LT 3 2).length=3:=by kernel_rfl
theorem ks3_3 (a b c:HairHorse):eachS (g15_14 3) ([a,b,c]:List HairHorse) 0 (([],[]):List Int×List HairHorse)=some (LT 3 3,keepL [a,b,c] (LT 3 3)):=by kernel_rfl
theorem kl3_3 (a b c:HairHorse):(keepL [a,b,c] (LT 3 3)).length+(LT 3 3).length=3:=by kernel_rfl
theorem ks3_4 (a b c:HairHorse):eachS (g15_14 4) ([a,b,c]:List HairHorse) 0 (([],[]):List Int×List HairHorse)=some (LT 3 4,keepL [a,b,c] (LT 3 4)):=by kernel_rfl
theorem kl3_4 (a b c:HairHorse):(keepL [a,b,c] (LT 3 4)).length+(LT 3 4).length=3:=by kernel_rfl
theorem ks3_5 (a b c:HairHorse):eachS (g15_14 5) ([a,b,c]:List HairHorse) 0 (([],[]):List Int×List HairHorse)=some (LT 3 5,keepL [a,b,c] (LT 3 5)):=by kernel_rfl
theorem kl3_5 (a b c:HairHorse):(keepL [a,b,c] (LT 3 5)).length+(LT 3 5).length=3:=by kernel_rfl
theorem ks3_6 (a b c:HairHorse):eachS (g15_14 6) ([a,b,c]:List HairHorse) 0 (([],[]):List Int×List HairHorse)=some (LT 3 6,keepL [a,b,c] (LT 3 6)):=by kernel_rfl
theorem kl3_6 (a b c:HairHorse):(keepL [a,b,c] (LT 3 6)).length+(LT 3 6).length=3:=by kernel_rfl
theorem ks3_7 (a b c:HairHorse):eachS (g15_14 7) ([a,b,c]:List HairHorse) 0 (([],[]):List Int×List HairHorse)=some (LT 3 7,keepL [a,b,c] (LT 3 7)):=by kernel_rfl
theorem kl3_7 (a b c:HairHorse):(keepL [a,b,c] (LT 3 7)).length+(LT 3 7).length=3:=by kernel_rfl
theorem ks {xs:List HairHorse} (hl:xs.length≤3) {s:Nat} (hs:s<2 ^ xs.length):eachS (g15_14 (s:Int)) xs 0 (([],[]):List Int×List HairHorse)=some (LT xs.length s,keepL xs (LT xs.length s)):=by
 match xs,hl,s,hs with
 | [],_,0,_=>exact ks0_0
 | [],_,s+1,hs=>exact absurd hs (by simp)
 | [a],_,0,_=>exact ks1_0 a
 | [a],_,1,_=>exact ks1_1 a
 | [a],_,s+2,hs=>exact absurd hs (by simp)
 | [a,b],_,0,_=>exact ks2_0 a b
 | [a,b],_,1,_=>exact ks2_1 a b
 | [a,b],_,2,_=>exact ks2_2 a b
 | [a,b],_,3,_=>exact ks2_3 a b
 | [a,b],_,s+4,hs=>exact absurd hs (by simp)
 | [a,b,c],_,0,_=>exact ks3_0 a b c
 | [a,b,c],_,1,_=>exact ks3_1 a b c
 | [a,b,c],_,2,_=>exact ks3_2 a b c
 | [a,b,c],_,3,_=>exact ks3_3 a b c
 | [a,b,c],_,4,_=>exact ks3_4 a b c
 | [a,b,c],_,5,_=>exact ks3_5 a b c
 | [a,b,c],_,6,_=>exact ks3_6 a b c
 | [a,b,c],_,7,_=>exact ks3_7 a b c
 | [a,b,c],_,s+8,hs=>exact absurd hs (by simp)
 | _::_::_::_::_,hl,_,_=>exact absurd hl (by simp)
theorem kl {xs:List HairHorse} (hl:xs.length≤3) {s:Nat} (hs:s<2 ^ xs.length):(keepL xs (LT xs.length s)).length+(LT xs.length s).length=xs.length:=by
 match xs,hl,s,hs with
 | [],_,0,_=>exact kl0_0
 | [],_,s+1,hs=>exact absurd hs (by simp)
 | [a],_,0,_=>exact kl1_0 a
 | [a],_,1,_=>exact kl1_1 a
 | [a],_,s+2,hs=>exact absurd hs (by simp)
 | [a,b],_,0,_=>exact kl2_0 a b
 | [a,b],_,1,_=>exact kl2_1 a b
 | [a,b],_,2,_=>exact kl2_2 a b
 | [a,b],_,3,_=>exact kl2_3 a b
 | [a,b],_,s+4,hs=>exact absurd hs (by simp)
 | [a,b,c],_,0,_=>exact kl3_0 a b c
 | [a,b,c],_,1,_=>exact kl3_1 a b c
 | [a,b,c],_,2,_=>exact kl3_2 a b c
 | [a,b,c],_,3,_=>exact kl3_3 a b c
 | [a,b,c],_,4,_=>exact kl3_4 a b c
 | [a,b,c],_,5,_=>exact kl3_5 a b c
 | [a,b,c],_,6,_=>exact kl3_6 a b c
 | [a,b,c],_,7,_=>exact kl3_7 a b c
 | [a,b,c],_,s+8,hs=>exact absurd hs (by simp)
 | _::_::_::_::_,hl,_,_=>exact absurd hl (by simp)
def woS (b:HairBook) (s:Nat):HairBook:=⟨b.Hanks,keepL b.Horses (LT b.Horses.length s),b.Dark,b.Near,b.Match⟩
theorem keepL_mem {xs:List HairHorse} {l:List Int} {x:HairHorse} (h:x∈keepL xs l):x∈xs:=by
 unfold keepL at h
 rw [List.mem_map] at h
 obtain ⟨y,hy,rfl⟩:=h
 have hm:=(List.mem_filter.1 hy).1
 rw [List.mem_iff_getElem?] at hm
 obtain ⟨k,hk⟩:=hm
 rw [List.getElem?_zipIdx] at hk
 cases hx:xs[k]? with
 | none=>rw [hx] at hk;cases hk
 | some z=>
  rw [hx] at hk
  simp only [Option.map_some,Option.some.injEq] at hk
  rw [← hk]
  exact List.mem_of_getElem? hx
theorem keepL_len (xs:List HairHorse) (l:List Int):(keepL xs l).length≤xs.length:=by
 unfold keepL
 rw [List.length_map]
 exact Nat.le_trans (List.length_filter_le _ _) (by rw [List.length_zipIdx];exact Nat.le_refl _)
theorem okW {b:HairBook} (hok:okH b=true) (s:Nat):okH (woS b s)=true:=by
 have hl:=keepL_len b.Horses (LT b.Horses.length s)
 unfold okH at hok ⊢
 simp only [Bool.and_eq_true,decide_eq_true_eq,List.all_eq_true] at hok ⊢
 obtain ⟨⟨⟨⟨⟨⟨h1,h2⟩,h3⟩,h4⟩,h5⟩,h6⟩,h7⟩:=hok
 refine ⟨⟨⟨⟨⟨⟨h1,?_⟩,h3⟩,h4⟩,h5⟩,h6⟩,fun x hx=>h7 x (keepL_mem hx)⟩
 simp only [woS]
 omega
theorem served_none {b:HairBook} (ok:OkH b) (h:b.Horses.length=0):servedB b=true:=by
 rw [served_iff]
 refine ⟨[],planB_iff.2 ⟨by simp [h],by simp⟩,?_⟩
 have:b.Horses=[]:=List.length_eq_zero_iff.1 h
 have hf:=okP_nil (b:=b) (by_:=fun s=>s.Low) (fun x hx=>by have:=(ok.hanks x hx).w;omega)
 unfold okP at hf
 rw [Bool.and_eq_true] at hf
 unfold worksB dyeK
 rw [this]
 rw [show fitK b []=fitP b (fun s=>s.Low) [] from rfl,hf.1]
 rfl
theorem served_all {b:HairBook} (hok:okH b=true):servedB (woS b (2 ^ b.Horses.length - 1))=true:=by
 have ok:=okH_of hok
 have h3:=ok.l3
 have hp:=pow_pos' b.Horses.length
 refine served_none (okH_of (okW hok _)) ?_
 have:=kl h3 (s:=2 ^ b.Horses.length - 1) (by omega)
 rw [(fz0 h3).2.2.1] at this
 unfold woS
 simp only
 omega
structure LackIs (b:HairBook) (t:Nat):Prop where
 lt:t<2 ^ b.Horses.length
 sv:servedB (woS b t)=true
 le:∀ u,u<2 ^ b.Horses.length→servedB (woS b u)=true→rk b.Horses.length t≤rk b.Horses.length u
def LackInv (b:HairBook) (i:Int) (s:List Int×Bool):Prop:=(s=([],false)∧∀ u:Nat,(u:Int)<i→servedB (woS b u)=false) ∨
 ∃ t:Nat,s=(LT b.Horses.length t,true)∧t<2 ^ b.Horses.length∧servedB (woS b t)=true∧∀ u:Nat,(u:Int)<i→servedB (woS b u)=true→rk b.Horses.length t≤rk b.Horses.length u
theorem p29_8 {b:HairBook} (hok:okH b=true) {s:Nat} (hs:s<2 ^ b.Horses.length) {st:List Int×Bool} (hI:LackInv b s st):∃ st',g15_8 b (s:Int) st=some st'∧LackInv b ((s:Int)+1) st':=by
 have ok:=okH_of hok
 have h3:=ok.l3
 have okw:=okH_of (okW hok s)
 obtain ⟨mf,e80,hmf⟩:=p80 okw
 have hmk:HairBook.mk b.Hanks (keepL b.Horses (LT b.Horses.length s)) b.Dark b.Near b.Match=woS b s:=rfl
 rcases hI with ⟨rfl,hI⟩ | ⟨t,rfl,ht,hsv,hle⟩
 ·have he:g15_8 b (s:Int) ([],false)=some (bif servedB (woS b s) then (LT b.Horses.length s,true) else ([],false)):=by
   unfold g15_8
   rw [ks h3 hs]
   simp only [bsm,cond_false,hmk,e80,p84 okw hmf]
   cases servedB (woS b s)<;>rfl
  refine ⟨_,he,?_⟩
  cases hv:servedB (woS b s) with
  | true=>
   refine .inr ⟨s,rfl,hs,hv,fun u hu hsu=>?_⟩
   by_cases e:u=s
   ·subst e;exact Nat.le_refl _
   ·have:=hI u (by omega);rw [hsu] at this;cases this
  | false=>
   refine .inl ⟨rfl,fun u hu=>?_⟩
   by_cases e:u=s
   ·subst e;exact hv
   ·exact hI u (by omega)
 ·have hc:=fC h3 hs ht
  have he:g15_8 b (s:Int) (LT b.Horses.length t,true)=some (bif decide (rk b.Horses.length s<rk b.Horses.length t)&&servedB (woS b s) then (LT b.Horses.length s,true) else (LT b.Horses.length t,true)):=by
   unfold g15_8
   rw [ks h3 hs]
   simp only [bsm,cond_true]
   have key:∀ {X:Option Bool} {F:Bool→Option (List Int×Bool)} {v:Bool},X=some v→X.bind F=F v:=by
    intro X F v h;rw [h];rfl
   refine Eq.trans (key hc) ?_
   cases decide (rk b.Horses.length s<rk b.Horses.length t) with
   | false=>rfl
   | true=>
    simp only [Bool.not_true,cond_false,hmk,e80,bsm,p84 okw hmf,Bool.true_and]
    cases servedB (woS b s)<;>rfl
  refine ⟨_,he,?_⟩
  by_cases h1:rk b.Horses.length s<rk b.Horses.length t
  ·rw [decide_eq_true h1,Bool.true_and]
   cases hv:servedB (woS b s) with
   | true=>
    refine .inr ⟨s,rfl,hs,hv,fun u hu hsu=>?_⟩
    by_cases e:u=s
    ·subst e;exact Nat.le_refl _
    ·have:=hle u (by omega) hsu;omega
   | false=>
    refine .inr ⟨t,rfl,ht,hsv,fun u hu hsu=>?_⟩
    by_cases e:u=s
    ·subst e;rw [hv] at hsu;cases hsu
    ·exact hle u (by omega) hsu
  ·rw [decide_eq_false h1,Bool.false_and]
   refine .inr ⟨t,rfl,ht,hsv,fun u hu hsu=>?_⟩
   by_cases e:u=s
   ·subst e;omega
   ·exact hle u (by omega) hsu
theorem p29 {b:HairBook} (hok:okH b=true):∃ t,LackIs b t∧g15 b=some (LT b.Horses.length t,0):=by
 have ok:=okH_of hok
 have h3:=ok.l3
 have hp:=pow_pos' b.Horses.length
 have hp8:=pow_le' h3
 obtain ⟨st,e,hI⟩:=forS_inv (f:=g15_8 b) (LackInv b) (2 ^ b.Horses.length) 0 ([],false) (.inl ⟨rfl,fun u hu=>by omega⟩) (fun j s h1 h2 hs=>by
  obtain ⟨k,rfl⟩:∃ k:Nat,j=(k:Int):=⟨j.toNat,by omega⟩
  exact p29_8 hok (by omega) hs)
 rcases hI with ⟨rfl,hI⟩ | ⟨t,rfl,ht,hsv,hle⟩
 ·have:=hI (2 ^ b.Horses.length - 1) (by omega)
  rw [served_all hok] at this;cases this
 ·refine ⟨t,⟨ht,hsv,fun u hu h=>hle u (by omega) h⟩,?_⟩
  unfold g15
  rw [p17,hok,bsm]
  simp only [cond_true,ne_eq,not_true_eq_false,decide_false,cond_false]
  rw [must_t (by rw [decide_eq_true_eq];omega),bsm,fS h3,must_t (by rw [decide_eq_true_eq];omega),bsm,show (((2 ^ b.Horses.length:Nat):Int) - 0).toNat=2 ^ b.Horses.length by omega,e,bsm]
  simp only [slcL_all,bsm]
end Go.Proofs.YthjogmcdfokihaaDoor
namespace Go.Proofs.YthjogmcdfokihaaDoor
open Go Go.Abs Go.Proofs.Tp
theorem cutS_horses {b x:HairBook} (h:x.Horses=b.Horses):∀ (ps:List Int) (v:Nat) (k:Int),cutS x ps v k=cutS b ps v k
 | [],v,k=>rfl
 | p::ps,v,k=>by
  rw [cutS,cutS,cutS_horses h ps]
  unfold partN
  rw [h]
theorem cutS_no {b:HairBook} (k:Int):∀ (ps:List Int) (v:Nat),¬ k∈ps→cutS b ps v k=0
 | [],v,h=>rfl
 | p::ps,v,h=>by
  rw [List.mem_cons,not_or] at h
  rw [cutS,cutS_no k ps _ h.2,decide_eq_false (fun e=>h.1 e.symm)]
  rfl
theorem dyesF_of {b:HairBook} {want mane tail m t:Int} (m1:0≤m) (m2:m≤b.Dark) (t1:0≤t) (t2:t≤b.Dark) (h:mB b want mane tail m t=true):(dyesF b want mane tail).isSome=true:=by
 unfold dyesF
 rw [Option.isSome_map]
 cases hf:firstI (fun m=>(firstI (fun t=>mB b want mane tail m t) (b.Dark+1).toNat 0).isSome) (b.Dark+1).toNat 0 with
 | some m=>rfl
 | none=>
  have h1:=firstI_none.1 hf m m1 (by omega)
  cases hg:firstI (fun t=>mB b want mane tail m t) (b.Dark+1).toNat 0 with
  | some t=>rw [hg] at h1;cases h1
  | none=>
   have h2:=firstI_none.1 hg t t1 (by omega)
   rw [h] at h2;cases h2
theorem dyeK_rel {b x:HairBook} (hor:x.Horses=b.Horses) (near:x.Near=b.Near) (mat:x.Match=b.Match) (dark:b.Dark≤x.Dark) {q:List Int} (hl:q.length=2*b.Horses.length) (hs:∀ n,n∈q→∀ j,(shOf b n j).Low≤(shOf x n j).Low∧(shOf x n j).High≤(shOf b n j).High) (h:dyeK b q=true):dyeK x q=true:=by
 unfold dyeK at h ⊢
 rw [hor]
 rw [List.all_eq_true] at h ⊢
 intro y hy
 have hd:=h y hy
 have hlt:y.2<b.Horses.length:=by
  rw [List.mem_iff_getElem?] at hy
  obtain ⟨j,hj⟩:=hy
  rw [List.getElem?_zipIdx] at hj
  cases hx:b.Horses[j]? with
  | none=>rw [hx] at hj;cases hj
  | some z=>
   rw [hx] at hj
   simp only [Option.map_some,Option.some.injEq,Nat.zero_add] at hj
   subst hj
   exact (List.getElem?_eq_some_iff.1 hx).1
 have i1:2*y.2<q.length:=by omega
 have i2:2*y.2+1<q.length:=by omega
 rw [List.getElem?_eq_getElem i1,List.getElem?_eq_getElem i2,Option.getD_some,Option.getD_some] at hd ⊢
 have s1:=hs _ (List.getElem_mem i1)
 have s2:=hs _ (List.getElem_mem i2)
 obtain ⟨d,hd⟩:=Option.isSome_iff_exists.1 hd
 obtain ⟨d1,d2,d3,d4,d5⟩:=dyesF_some hd
 refine dyesF_of d1 (by omega) d3 (by omega) ?_
 have a1:=s1 d.1
 have a2:=s2 d.2
 unfold mB nearB at d5 ⊢
 rw [near,mat]
 by_cases e:q[2*y.2]=q[2*y.2+1]
 ·rw [decide_eq_true e] at d5 ⊢
  simp only [cond_true,Bool.and_eq_true,decide_eq_true_eq] at d5 ⊢
  omega
 ·rw [decide_eq_false e] at d5 ⊢
  simp only [cond_false,Bool.and_eq_true,decide_eq_true_eq] at d5 ⊢
  omega
def hasP (b:HairBook) (by_:Span→Int):Bool:=!(plansL b by_).isEmpty
theorem mem_plansG {b:HairBook} {by_:Span→Int} {p:List Int}:p∈plansL b by_↔planB b p=true∧fitP b by_ p=true∧dyeK b p=true:=by
 unfold plansL
 rw [List.mem_filter,mem_allP]
 constructor
 ·rintro ⟨h1,h2⟩
  unfold okP at h2
  rw [dyeQ_full (planB_iff.1 h1).1,Bool.and_eq_true] at h2
  exact ⟨h1,h2⟩
 ·rintro ⟨h1,h2⟩
  refine ⟨h1,?_⟩
  unfold okP
  rw [dyeQ_full (planB_iff.1 h1).1,Bool.and_eq_true]
  exact h2
theorem has_iff {b:HairBook} {by_:Span→Int}:hasP b by_=true↔∃ q,planB b q=true∧fitP b by_ q=true∧dyeK b q=true:=by
 unfold hasP
 constructor
 ·intro h
  cases hl:plansL b by_ with
  | nil=>rw [hl] at h;cases h
  | cons p l=>exact ⟨p,mem_plansG.1 (by rw [hl];simp)⟩
 ·rintro ⟨p,hp⟩
  cases hl:plansL b by_ with
  | nil=>have:=mem_plansG.2 hp;rw [hl] at this;cases this
  | cons q l=>rfl
structure SubH (b x:HairBook):Prop where
 hor:x.Horses=b.Horses
 near:x.Near=b.Near
 mat:x.Match=b.Match
 dark:b.Dark≤x.Dark
 hank:∀ (k:Nat) h,b.Hanks[k]?=some h→∃ h',x.Hanks[k]?=some h'∧h.Shade.Low≤h'.Shade.Low∧h'.Shade.High≤h.Shade.High
theorem SubH.planH {b x:HairBook} (S:SubH b x) {q:List Int} (h:planB b q=true):planB x q=true:=by
 rw [planB_iff] at h ⊢
 refine ⟨by rw [S.hor];exact h.1,fun n hn=>?_⟩
 have hb:=h.2 n hn
 obtain ⟨h',e,_⟩:=S.hank n.toNat _ (List.getElem?_eq_getElem (show n.toNat<b.Hanks.length by omega))
 have:=(List.getElem?_eq_some_iff.1 e).1
 omega
theorem SubH.dyeH {b x:HairBook} (S:SubH b x) {q:List Int} (hp:planB b q=true) (h:dyeK b q=true):dyeK x q=true:=by
 obtain ⟨h1,h2⟩:=planB_iff.1 hp
 refine dyeK_rel S.hor S.near S.mat S.dark h1 (fun n hn j=>?_) h
 have hb:=h2 n hn
 have e0:=List.getElem?_eq_getElem (show n.toNat<b.Hanks.length by omega)
 obtain ⟨h',e,l1,l2⟩:=S.hank n.toNat _ e0
 unfold shOf
 rw [e0,e]
 simp only
 omega
def wB (b:HairBook) (w s:Int):HairBook:=⟨b.Hanks++[⟨⟨w,w⟩,⟨s,s⟩⟩],b.Horses,b.Dark,b.Near,b.Match⟩
theorem wB_get {b:HairBook} {w s:Int} {k:Nat} {h:HairHank} (e:(wB b w s).Hanks[k]?=some h):(b.Hanks[k]?=some h∧k<b.Hanks.length)∨(k=b.Hanks.length∧h=⟨⟨w,w⟩,⟨s,s⟩⟩):=by
 unfold wB at e
 simp only at e
 by_cases hk:k<b.Hanks.length
 ·rw [List.getElem?_append_left hk] at e
  exact .inl ⟨e,hk⟩
 ·rw [List.getElem?_append_right (by omega)] at e
  have:k - b.Hanks.length=0:=by
   have:=(List.getElem?_eq_some_iff.1 e).1
   simp at this;omega
  rw [this] at e
  refine .inr ⟨by omega,?_⟩
  simpa using e.symm
theorem wB_at (b:HairBook) (w s:Int):(wB b w s).Hanks[b.Hanks.length]?=some ⟨⟨w,w⟩,⟨s,s⟩⟩:=by
 unfold wB
 simp
theorem wB_lt {b:HairBook} (w s:Int) {k:Nat} (hk:k<b.Hanks.length):(wB b w s).Hanks[k]?=b.Hanks[k]?:=by
 unfold wB
 simp only
 rw [List.getElem?_append_left hk]
theorem wB_len (b:HairBook) (w s:Int):(wB b w s).Hanks.length=b.Hanks.length+1:=by
 unfold wB;simp
theorem wB_sub2 (b:HairBook) (w v s:Int):SubH (wB b w s) (wB b v s):=⟨rfl,rfl,rfl,Int.le_refl _,fun k h e=>by
 rcases wB_get e with ⟨e,hk⟩ | ⟨rfl,rfl⟩
 ·exact ⟨h,by rw [wB_lt v s hk];exact e,Int.le_refl _,Int.le_refl _⟩
 ·exact ⟨_,wB_at b v s,Int.le_refl _,Int.le_refl _⟩⟩
theorem OkH_wB {b:HairBook} (hok:okH b=true) {w s:Int} (w1:1≤w) (w2:w≤60) (s1:0≤s) (s2:s≤20):OkH (wB b w s):=by
 have ok:=okH_of hok
 have h4:=okH_l4 hok
 refine ⟨by rw [wB_len];omega,ok.l3,ok.dark,ok.near,ok.mat,fun x hx=>?_,ok.horses⟩
 rcases List.mem_append.1 hx with hx | hx
 ·exact ok.hanks x hx
 ·rw [List.mem_singleton] at hx
  subst hx
  exact ⟨⟨w1,Int.le_refl _,w2⟩,s1,Int.le_refl _,s2⟩
theorem with_iff {b:HairBook} (ok:OkH b) {v s:Int} (h0:0≤v) (h60:v≤60):servedB (wB b v s)=true↔∃ q,q∈plansL (wB b 60 s) (·.Low)∧cutS (wB b 60 s) q 0 (b.Hanks.length:Int)≤v:=by
 constructor
 ·intro h
  obtain ⟨q,h1,h2,h3⟩:=has_iff.1 (show hasP (wB b v s) (fun s=>s.Low)=true from h)
  have hS:=wB_sub2 b v 60 s
  have hc:∀ k:Int,cutS (wB b 60 s) q 0 k=cutS (wB b v s) q 0 k:=fun k=>cutS_horses (b:=wB b v s) (x:=wB b 60 s) rfl q 0 k
  rw [fitP_iff] at h2
  have hK:=h2 b.Hanks.length _ (wB_at b v s)
  refine ⟨q,mem_plansG.2 ⟨hS.planH h1,fitP_iff.2 fun k x hx=>?_,hS.dyeH h1 h3⟩,by rw [hc];exact hK⟩
  rw [hc]
  rcases wB_get hx with ⟨hx,hk⟩ | ⟨rfl,rfl⟩
  ·exact h2 k x (by rw [wB_lt v s hk];exact hx)
  ·simp only at hK ⊢;omega
 ·rintro ⟨q,hq,hle⟩
  obtain ⟨h1,h2,h3⟩:=mem_plansG.1 hq
  have hS:=wB_sub2 b 60 v s
  have hc:∀ k:Int,cutS (wB b v s) q 0 k=cutS (wB b 60 s) q 0 k:=fun k=>cutS_horses (b:=wB b 60 s) (x:=wB b v s) rfl q 0 k
  rw [fitP_iff] at h2
  refine has_iff.2 ⟨q,hS.planH h1,fitP_iff.2 fun k x hx=>?_,hS.dyeH h1 h3⟩
  rw [hc]
  rcases wB_get hx with ⟨hx,hk⟩ | ⟨rfl,rfl⟩
  ·exact h2 k x (by rw [wB_lt 60 s hk];exact hx)
  ·exact hle
theorem with0_lt {b:HairBook} (ok:OkH b) {s:Int} {q:List Int} (q1:q.length=2*b.Horses.length) (q2:∀ n,n∈q→0≤n∧n<(b.Hanks.length:Int)+1) (hle:cutS b q 0 (b.Hanks.length:Int)≤0):∀ n,n∈q→0≤n∧n<b.Hanks.length:=fun n hn=>by
 have hb:=q2 n hn
 refine ⟨hb.1,?_⟩
 by_cases e:n=(b.Hanks.length:Int)
 ·have:=(cutS_pos ok (b.Hanks.length:Int) q 0 (by omega)).2 (by rw [← e];exact hn)
  omega
 ·omega
theorem with0 {b:HairBook} (ok:OkH b) {s:Int} (h:servedB (wB b 0 s)=true):servedB b=true:=by
 obtain ⟨q,hq,hle⟩:=(with_iff ok (Int.le_refl 0) (by omega)).1 h
 obtain ⟨h1,h2,h3⟩:=mem_plansG.1 hq
 obtain ⟨q1,q2⟩:=planB_iff.1 h1
 rw [cutS_horses (b:=b) (x:=wB b 60 s) rfl] at hle
 rw [wB_len] at q2
 rw [show (wB b 60 s).Horses=b.Horses from rfl] at q1
 have hlt:=with0_lt ok (s:=s) q1 (fun n hn=>by have:=q2 n hn;omega) hle
 rw [fitP_iff] at h2
 have hsh:∀ n,n∈q→∀ j,shOf (wB b 60 s) n j=shOf b n j:=fun n hn j=>by
  have hb:=hlt n hn
  unfold shOf
  rw [wB_lt 60 s (show n.toNat<b.Hanks.length by omega)]
 have hd:dyeK b q=true:=dyeK_rel (b:=wB b 60 s) (x:=b) rfl rfl rfl (Int.le_refl _) q1 (fun n hn j=>by
  rw [hsh n hn j];exact ⟨Int.le_refl _,Int.le_refl _⟩) h3
 have hf:fitP b (fun s=>s.Low) q=true:=fitP_iff.2 fun k x hx=>by
  have:=h2 k x (by rw [wB_lt 60 s (List.getElem?_eq_some_iff.1 hx).1];exact hx)
  rw [cutS_horses (b:=b) (x:=wB b 60 s) rfl] at this
  exact this
 exact has_iff.2 ⟨q,planB_iff.2 ⟨q1,hlt⟩,hf,hd⟩
def BuyIs (b:HairBook) (s:Int) (r:Int×Int):Prop:=(servedB b=true∧r=(0,0))∨(servedB b=false∧servedB (wB b 60 s)=false∧r=(0,4)) ∨
 ∃ w,1≤w∧w≤60∧servedB b=false∧r=(w,0)∧servedB (wB b w s)=true∧∀ v,0≤v→v<w→servedB (wB b v s)=false
theorem foldl_min {α:Type} (f:α→Int):∀ (l:List α) (n:Int),let m:=l.foldl (fun v q=>min v (f q)) n;m≤n∧(∀ q,q∈l→m≤f q)∧(m=n∨∃ q,q∈l∧m=f q)
 | [],n=>⟨Int.le_refl _,by simp,.inl rfl⟩
 | a::l,n=>by
  obtain ⟨h1,h2,h3⟩:=foldl_min f l (min n (f a))
  simp only [List.foldl_cons]
  refine ⟨by omega,fun q hq=>?_,?_⟩
  ·rcases List.mem_cons.1 hq with rfl | hq
   ·omega
   ·exact h2 q hq
  ·rcases h3 with h3 | ⟨q,hq,h3⟩
   ·by_cases e:n≤f a
    ·left;omega
    ·right;exact ⟨a,by simp,by omega⟩
   ·right;exact ⟨q,by simp [hq],h3⟩
theorem p31 {b:HairBook} (hok:okH b=true) {s:Int} (s1:0≤s) (s2:s≤20):∃ r,BuyIs b s r∧g17 b s=some r:=by
 have ok:=okH_of hok
 have h4:=okH_l4 hok
 obtain ⟨mf,e80,hmf⟩:=p80 ok
 have e55:g33a b s=some (.brk (b,mf,0)):=by
  unfold g33a g46
  rw [p17,hok,bsm]
  simp only [cond_true,ne_eq,not_true_eq_false,decide_false,cond_false,e80,bsm,p57,rg_iff.2 (show 0≤s∧s≤20 from ⟨s1,s2⟩),Bool.not_true]
 unfold g17
 rw [e55,bsm]
 simp only [ne_eq,not_true_eq_false,decide_false,cond_false,p84 ok hmf,bsm]
 cases hv:servedB b with
 | true=>exact ⟨(0,0),.inl ⟨hv,rfl⟩,rfl⟩
 | false=>
  have okU:=OkH_wB hok (w:=60) (by omega) (by omega) s1 s2
  obtain ⟨mU,e80U,hmU⟩:=p80 okU
  simp only [cond_false,slcL_all,bsm]
  rw [appL_ok (by rw [List.length_append,List.length_singleton];omega),bsm]
  rw [show HairBook.mk (b.Hanks++[HairHank.mk (Span.mk 60 60) (Span.mk s s)]) b.Horses b.Dark b.Near b.Match=wB b 60 s from rfl,e80U]
  simp only [g39,g44,bsm]
  rw [p111 _ okU hmU]
  have hr:=runY_fold (B:=fun q u=>g17_r22 (b.Hanks++[HairHank.mk (Span.mk 60 60) (Span.mk s s)]) (q,cutF (wB b 60 s) q) u) (X:=Unit) (fun v q=>min v (cutS (wB b 60 s) q 0 (b.Hanks.length:Int))) (plansL (wB b 60 s) (·.Low)) 61 (fun q u hq=>by
   unfold g17_r22
   simp only
   rw [List.length_append,List.length_singleton,wr_in (by omega) (by omega),show ((b.Hanks.length+1:Nat):Int) - 1=((b.Hanks.length:Nat):Int) by omega,ixN_nat (by omega)]
   rfl)
  have e:runY (fun q s_1=>rndC (g17_r22 (b.Hanks++[HairHank.mk (Span.mk 60 60) (Span.mk s s)])) (q,cutF (wB b 60 s) q) s_1) (plansL (wB b 60 s) (·.Low)) (.next 61)=runY (fun a s_1=>rndC (fun q u=>g17_r22 (b.Hanks++[HairHank.mk (Span.mk 60 60) (Span.mk s s)]) (q,cutF (wB b 60 s) q) u) a s_1) (plansL (wB b 60 s) (·.Low)) (.next 61):=by
   congr 1
  rw [e,hr]
  obtain ⟨m1,m2,m3⟩:=foldl_min (fun q=>cutS (wB b 60 s) q 0 (b.Hanks.length:Int)) (plansL (wB b 60 s) (·.Low)) 61
  generalize hn:(plansL (wB b 60 s) (·.Low)).foldl (fun v q=>min v (cutS (wB b 60 s) q 0 (b.Hanks.length:Int))) 61=n at m1 m2 m3
  simp only [Option.map_some,bsm]
  by_cases h60:60<n
  ·rw [decide_eq_true h60,cond_true]
   refine ⟨(0,4),.inr (.inl ⟨hv,?_,rfl⟩),rfl⟩
   cases hu:servedB (wB b 60 s) with
   | false=>rfl
   | true=>
    obtain ⟨q,hq,hle⟩:=(with_iff ok (by omega) (by omega)).1 hu
    have:=m2 q hq
    omega
  ·rw [decide_eq_false h60,cond_false]
   rcases m3 with m3 | ⟨q,hq,m3⟩
   ·omega
   ·have hc:=cutS_bd okU (b.Hanks.length:Int) q 0
    have hno:∀ v,0≤v→v<n→servedB (wB b v s)=false:=fun v v1 v2=>by
     cases hu:servedB (wB b v s) with
     | false=>rfl
     | true=>
      obtain ⟨q',hq',hle⟩:=(with_iff ok v1 (by omega)).1 hu
      have:=m2 q' hq'
      omega
    have hyes:servedB (wB b n s)=true:=(with_iff ok (by omega) (by omega)).2 ⟨q,hq,by omega⟩
    have hn1:1≤n:=by
     by_cases e:n=0
     ·rw [e] at hyes
      have:=with0 ok hyes
      rw [hv] at this;cases this
     ·omega
    exact ⟨(n,0),.inr (.inr ⟨n,hn1,by omega,hv,rfl,hyes,hno⟩),rfl⟩
end Go.Proofs.YthjogmcdfokihaaDoor
namespace Go.Proofs.YthjogmcdfokihaaDoor
open Go Go.Abs Go.Proofs.Tp
def oneH (h:HairHank) (n:Int):HairHank:=⟨h.Weight,⟨n,n⟩⟩
def setH (b:HairBook) (hs:List HairHank):HairBook:=⟨hs,b.Horses,b.Dark,b.Near,b.Match⟩
def perh (b:HairBook):List HairHank→List HairHank→Bool
 | [],hs=>hasP (setH b hs) (·.High)
 | h::r,hs=>(firstI (fun v=>perh b r (hs++[oneH h (h.Shade.Low+v)])) (h.Shade.High - h.Shade.Low+1).toNat 0).isSome
theorem okS {b:HairBook} (ok:OkH b) {hs:List HairHank} (hl:hs.length≤5) (hh:∀ x,x∈hs→HankOk x):OkH (setH b hs):=⟨hl,ok.l3,ok.dark,ok.near,ok.mat,hh,ok.horses⟩
theorem oneOk {h:HairHank} (hk:HankOk h) {n:Int} (h1:h.Shade.Low≤n) (h2:n≤h.Shade.High):HankOk (oneH h n):=by
 have:=hk.s
 exact ⟨hk.w,by simp only [oneH];omega,by simp [oneH],by simp only [oneH];omega⟩
theorem p91 {b:HairBook} (ok:OkH b) (h4:b.Hanks.length≤4):∀ (r hs:List HairHank) (fuel:Nat),(∀ j x,r[j]?=some x→b.Hanks[hs.length+j]?=some x)→hs.length+r.length=b.Hanks.length→r.length+1≤fuel→(∀ x,x∈hs→HankOk x)→g43 fuel hs b=some (perh b r hs)
 | [],hs,fuel,hr,hl,hf,hh=>by
  obtain ⟨fuel,rfl⟩:∃ j,fuel=j+1:=⟨fuel - 1,by omega⟩
  simp only [List.length_nil,Nat.add_zero] at hl
  have okL:=okS ok (hs:=hs) (by omega) hh
  obtain ⟨mf,e80,hmf⟩:=p80 okL
  rw [g43,decide_eq_true (show (hs.length:Int)=(b.Hanks.length:Int) by omega),cond_true]
  rw [show HairBook.mk hs b.Horses b.Dark b.Near b.Match=setH b hs from rfl,e80]
  simp only [g40,g44a,bsm]
  rw [p111a _ okL hmf]
  have hr:=runY_stop (B:=fun q u=>g43_r11 (q,cutF (setH b hs) q) u) (X:=Unit) () (plansL (setH b hs) (·.High)) () (fun a s=>rfl)
  have e:runY (fun q s=>rndC g43_r11 (q,cutF (setH b hs) q) s) (plansL (setH b hs) (·.High)) (.next ())=runY (fun a s=>rndC (fun q u=>g43_r11 (q,cutF (setH b hs) q) u) a s) (plansL (setH b hs) (·.High)) (.next ()):=by
   congr 1
  rw [e,hr,perh]
  unfold hasP
  cases plansL (setH b hs) (·.High)<;>rfl
 | h::r,hs,fuel,hr,hl,hf,hh=>by
  obtain ⟨fuel,rfl⟩:∃ j,fuel=j+1:=⟨fuel - 1,by omega⟩
  simp only [List.length_cons] at hl hf
  have h0:=hr 0 h (by simp)
  rw [Nat.add_zero] at h0
  have hk:=ok.hanks h (List.mem_of_getElem? h0)
  have hs1:=hk.s
  rw [g43,decide_eq_false (show ¬ (hs.length:Int)=(b.Hanks.length:Int) by omega),cond_false,ixL_nat,h0,bsm]
  rw [wr_in (show -9223372036854775808≤h.Shade.High - h.Shade.Low by omega) (by omega),wr_in (show -9223372036854775808≤h.Shade.High - h.Shade.Low+1 by omega) (by omega),Int.sub_zero]
  have:=forC_firstU (f:=g43_16 (g43 fuel) hs b h) (fun v=>perh b r (hs++[oneH h (h.Shade.Low+v)])) (fun _=>(.brk (.brk true):Ctl Unit (Ctl Unit Bool))) (h.Shade.High - h.Shade.Low+1).toNat 0 (fun v v1 v2=>by
   unfold g43_16
   rw [slcL_all,bsm,wr_in (by omega) (by omega),appL_ok (by rw [List.length_append,List.length_singleton];omega),bsm]
   rw [show HairHank.mk h.Weight (Span.mk (h.Shade.Low+v) (h.Shade.Low+v))=oneH h (h.Shade.Low+v) from rfl]
   rw [p91 ok h4 r (hs++[oneH h (h.Shade.Low+v)]) fuel (fun j x hx=>by
    have:=hr (j+1) x (by rw [List.getElem?_cons_succ];exact hx)
    rw [List.length_append,List.length_singleton,show hs.length+1+j=hs.length+(j+1) by omega];exact this) (by rw [List.length_append,List.length_singleton];omega) (by omega) (fun x hx=>by
    rcases List.mem_append.1 hx with hx | hx
    ·exact hh x hx
    ·rw [List.mem_singleton] at hx
     rw [hx]
     exact oneOk hk (by omega) (by omega)),bsm]
   cases perh b r (hs++[oneH h (h.Shade.Low+v)])<;>rfl)
  rw [this,perh]
  cases firstI (fun v=>perh b r (hs++[oneH h (h.Shade.Low+v)])) (h.Shade.High - h.Shade.Low+1).toNat 0<;>rfl
theorem p33 (b:HairBook):g16 b=some (bif okH b then (perh b b.Hanks [],0) else (false,60)):=by
 unfold g16
 rw [p17,bsm]
 cases hok:okH b with
 | false=>rfl
 | true=>
  have h4:=okH_l4 hok
  simp only [cond_true,ne_eq,not_true_eq_false,decide_false,cond_false]
  rw [p91 (okH_of hok) h4 b.Hanks [] 1000 (fun j x hx=>by rw [List.length_nil,Nat.zero_add];exact hx) (by simp) (by omega) (by simp),bsm]
end Go.Proofs.YthjogmcdfokihaaDoor
set_option maxRecDepth 100000
namespace Go.Proofs.YthjogmcdfokihaaDoor
open Go Go.Abs Go.Proofs.Tp
def Pick (r gs:List HairHank):Prop:=gs.length=r.length∧∀ (k:Nat) h,r[k]?=some h→∃ n,h.Shade.Low≤n∧n≤h.Shade.High∧gs[k]?=some (oneH h n)
theorem perh_iff (b:HairBook):∀ (r hs:List HairHank),perh b r hs=true↔∃ gs,Pick r gs∧hasP (setH b (hs++gs)) (·.High)=true
 | [],hs=>by
  rw [perh]
  constructor
  ·intro h;exact ⟨[],⟨rfl,fun k h hk=>by simp at hk⟩,by rw [List.append_nil];exact h⟩
  ·rintro ⟨gs,⟨h1,_⟩,h2⟩
   have:gs=[]:=List.length_eq_zero_iff.1 h1
   rw [this,List.append_nil] at h2
   exact h2
 | h::r,hs=>by
  rw [perh]
  constructor
  ·intro hp
   obtain ⟨v,hv⟩:=Option.isSome_iff_exists.1 hp
   obtain ⟨v1,v2,v3,_⟩:=firstI_some hv
   obtain ⟨gs,⟨g1,g2⟩,g3⟩:=(perh_iff b r _).1 v3
   refine ⟨oneH h (h.Shade.Low+v)::gs,⟨by rw [List.length_cons,List.length_cons,g1],fun k x hx=>?_⟩,by rw [List.append_assoc] at g3;exact g3⟩
   cases k with
   | zero=>
    simp only [List.getElem?_cons_zero,Option.some.injEq] at hx
    subst hx
    exact ⟨h.Shade.Low+v,by omega,by omega,rfl⟩
   | succ k=>
    rw [List.getElem?_cons_succ] at hx
    obtain ⟨n,n1,n2,n3⟩:=g2 k x hx
    exact ⟨n,n1,n2,by rw [List.getElem?_cons_succ];exact n3⟩
  ·rintro ⟨gs,⟨g1,g2⟩,g3⟩
   cases gs with
   | nil=>simp at g1
   | cons g gs=>
    obtain ⟨n,n1,n2,n3⟩:=g2 0 h (by simp)
    simp only [List.getElem?_cons_zero,Option.some.injEq] at n3
    have hrec:perh b r (hs++[oneH h n])=true:=(perh_iff b r _).2 ⟨gs,⟨by simpa using g1,fun k x hx=>by
     have:=g2 (k+1) x (by rw [List.getElem?_cons_succ];exact hx)
     rw [List.getElem?_cons_succ] at this;exact this⟩,by rw [List.append_assoc,← n3];exact g3⟩
    cases hf:firstI (fun v=>perh b r (hs++[oneH h (h.Shade.Low+v)])) (h.Shade.High - h.Shade.Low+1).toNat 0 with
    | some v=>rfl
    | none=>
     have:=firstI_none.1 hf (n - h.Shade.Low) (by omega) (by omega)
     rw [show h.Shade.Low+(n - h.Shade.Low)=n by omega,hrec] at this
     cases this
end Go.Proofs.YthjogmcdfokihaaDoor
namespace Go.Proofs.YthjogmcdfokihaaDoor
open Go.Abs Go.Proofs.Tp
theorem combed_ok:g6=some true:=by kernel_rfl
def pB (ws ps:List Int):PlankBook:=⟨ws.map fun w=>⟨w,[]⟩,ps.map fun p=>⟨p,[],false⟩⟩
def castN (l:List Nat):List Int:=l.map fun (n:Nat)=>(n:Int)
def lenO (ps:List Int) (i:Nat):Nat:=(ps.getD i 0).toNat
structure Sml (ws ps:List Int):Prop where
 n3:ws.length≤3
 k4:ps.length≤4
 w:∀ x,x∈ws→1≤x∧x≤16
 p:∀ x,x∈ps→1≤x∧x≤12
def puts (t:Nat→Bool) (a:Nat):Nat→Nat→Bool
 | 0=>t
 | n+1=>aset (puts t a n) (a+n) true
theorem asetG {α:Type} (w:Nat→α) (j k:Nat) (x:α):aset w j x k=if k=j then x else w k:=by
 unfold aset
 by_cases h:k=j
 ·subst h;simp
 ·rw [if_neg h,show Nat.beq k j=false by cases hb:Nat.beq k j with | true=>exact absurd (Nat.eq_of_beq_eq_true hb) h | false=>rfl];rfl
theorem puts_get (t:Nat→Bool) (a:Nat):∀ (n j:Nat),puts t a n j=(t j||(decide (a≤j)&&decide (j<a+n)))
 | 0,j=>by
  have:(decide (a≤j)&&decide (j<a+0))=false:=by
   cases hx:(decide (a≤j)&&decide (j<a+0)) with
   | false=>rfl
   | true=>simp only [Bool.and_eq_true,decide_eq_true_eq] at hx;omega
  rw [this,Bool.or_false];rfl
 | n+1,j=>by
  rw [puts,asetG,puts_get t a n j]
  by_cases h:j=a+n
  ·rw [if_pos h];subst h;simp
  ·rw [if_neg h]
   congr 1
   congr 1
   rw [decide_eq_decide];omega
theorem puts_loop (t:Nat→Bool) (a:Nat):∀ (d i:Nat),a+i+d≤16→forS (g66_17 (a:Int)) d (i:Int) (puts t a i)=some (puts t a (i+d))
 | 0,i,_=>rfl
 | d+1,i,h=>by
  rw [forS]
  have e:g66_17 (a:Int) (i:Int) (puts t a i)=some (puts t a (i+1)):=by
   unfold g66_17
   rw [wr_in (by omega) (by omega),show (a:Int)+(i:Int)=((a+i:Nat):Int) by omega,ixN_nat (by omega),bsm]
   rfl
  rw [e,bsm]
  have:=puts_loop t a d (i+1) (by omega)
  rw [show (((i+1:Nat)):Int)=(i:Int)+1 by omega] at this
  rw [this,show i+1+d=i+(d+1) by omega]
def Fit (W:Nat):(Nat→Bool)→List Nat→Prop
 | _,[]=>True
 | t,n::ns=>∃ a,a+n≤W∧(∀ j,j<n→t (a+j)=false)∧Fit W (puts t a n) ns
theorem fit_of {W:Nat}:∀ (ns:List Nat) (c:Nat) (t:Nat→Bool),(∀ j,c≤j→t j=false)→c+ns.sum≤W→Fit W t ns
 | [],c,t,_,_=>trivial
 | n::ns,c,t,ht,h=>by
  rw [List.sum_cons] at h
  refine ⟨c,by omega,fun j _=>ht _ (by omega),fit_of ns (c+n) _ (fun j hj=>?_) (by omega)⟩
  rw [puts_get,ht j (by omega),Bool.false_or]
  simp;omega
def cnt (W:Nat) (t:Nat→Bool):Nat:=(List.range W).countP t
theorem cnt_aset (t:Nat→Bool) (k:Nat) (hk:t k=false):∀ W:Nat,cnt W (aset t k true)=cnt W t+(if k<W then 1 else 0)
 | 0=>rfl
 | W+1=>by
  unfold cnt
  rw [List.range_succ,List.countP_append,List.countP_append]
  have ih:=cnt_aset t k hk W
  unfold cnt at ih
  rw [ih]
  by_cases h:k<W
  ·have e1:aset t k true W=t W:=by rw [asetG,if_neg (by omega)]
   simp only [List.countP_cons,List.countP_nil,Nat.zero_add,e1,if_pos h,if_pos (show k<W+1 by omega)]
   omega
  ·by_cases e:k=W
   ·subst e
    have e1:aset t k true k=true:=by rw [asetG,if_pos rfl]
    simp only [List.countP_cons,List.countP_nil,Nat.zero_add,e1,hk,if_neg h,if_pos (show k<k+1 by omega)]
    simp
   ·have e1:aset t k true W=t W:=by rw [asetG,if_neg (by omega)]
    simp only [List.countP_cons,List.countP_nil,Nat.zero_add,e1,if_neg h,if_neg (show ¬ k<W+1 by omega)]
    omega
theorem cnt_puts {W:Nat} (t:Nat→Bool) (a:Nat):∀ n:Nat,a+n≤W→(∀ j,j<n→t (a+j)=false)→cnt W (puts t a n)=cnt W t+n
 | 0,_,_=>rfl
 | n+1,h,hc=>by
  rw [puts,cnt_aset _ _ (by rw [puts_get,hc n (by omega),Bool.false_or];simp),cnt_puts t a n (by omega) (fun j hj=>hc j (by omega)),if_pos (by omega)]
  omega
theorem fit_le_sum {W:Nat}:∀ (ns:List Nat) (t:Nat→Bool),Fit W t ns→cnt W t+ns.sum≤W
 | [],t,_=>by
  have:cnt W t≤(List.range W).length:=List.countP_le_length
  simp at this
  simpa using this
 | n::ns,t,⟨a,h1,h2,h3⟩=>by
  have:=fit_le_sum ns _ h3
  rw [cnt_puts t a n h1 h2] at this
  rw [List.sum_cons];omega
theorem fit_iff {W:Nat} (ns:List Nat):Fit W (fun _=>false) ns↔ns.sum≤W:=by
 constructor
 ·intro h
  have:=fit_le_sum ns _ h
  omega
 ·intro h
  exact fit_of ns 0 _ (fun _ _=>rfl) (by omega)
theorem q76_loop (v:Bool):∀ (xs:List Bool) (i:Nat),∃ c,eachC (g76_3 v) xs (i:Int) ()=some c∧(match c with | .next _=>v ∉ xs | .brk r=>v∈xs∧0≤r)
 | [],i=>⟨.next (),rfl,by simp⟩
 | x::xs,i=>by
  obtain ⟨c,e,hc⟩:=q76_loop v xs (i+1)
  rw [eachC]
  unfold g76_3
  by_cases hv:v=x
  ·refine ⟨.brk (i:Int),?_,by simp [hv],by omega⟩
   subst hv
   cases v<;>rfl
  ·refine ⟨c,?_,?_⟩
   ·have:(false != (v==x))=false:=by cases v<;>cases x<;>first | rfl | exact absurd rfl hv
    rw [this,cond_false,bsm]
    rw [show (((i+1:Nat)):Int)=(i:Int)+1 by omega] at e
    exact e
   ·cases c with
    | next s=>simp only at hc ⊢;simp [hv,hc]
    | brk r=>simp only at hc ⊢;exact ⟨by simp [hc.1],hc.2⟩
theorem q68 (s:List Bool) (v:Bool):g68 s v=some (decide (v∈s)):=by
 unfold g68 g76
 obtain ⟨c,e,hc⟩:=q76_loop v s 0
 rw [show (((0:Nat)):Int)=0 from rfl] at e
 rw [e]
 cases c with
 | next u=>simp only [bindC] at hc ⊢;simp [bsm,hc]
 | brk r=>simp only [bindC] at hc ⊢;simp [bsm,hc.1,hc.2]
theorem pB_plank {ws ps:List Int} {i:Nat} (h:i<ws.length):(pB ws ps).Planks[i]?=some ⟨ws[i],[]⟩:=by
 show (ws.map _)[i]?=_
 rw [List.getElem?_map,List.getElem?_eq_getElem h];rfl
theorem pB_part {ws ps:List Int} {i:Nat} (h:i<ps.length):(pB ws ps).Parts[i]?=some ⟨ps[i],[],false⟩:=by
 show (ps.map _)[i]?=_
 rw [List.getElem?_map,List.getElem?_eq_getElem h];rfl
theorem lenO_eq {ws ps:List Int} (S:Sml ws ps) {i:Nat} (h:i<ps.length):(ps[i]:Int)=(lenO ps i:Int)∧1≤lenO ps i∧lenO ps i≤12:=by
 have:=S.p _ (List.getElem_mem h)
 have e:lenO ps i=(ps[i]).toNat:=by
  unfold lenO
  rw [List.getD_eq_getElem?_getD,List.getElem?_eq_getElem h,Option.getD_some]
 rw [e];omega
theorem lenO_w {ws ps:List Int} (S:Sml ws ps) {i:Nat} (h:i<ws.length):(ws[i]:Int)=(lenO ws i:Int)∧1≤lenO ws i∧lenO ws i≤16:=by
 have:=S.w _ (List.getElem_mem h)
 have e:lenO ws i=(ws[i]).toNat:=by
  unfold lenO
  rw [List.getD_eq_getElem?_getD,List.getElem?_eq_getElem h,Option.getD_some]
 rw [e];omega
def Good (W:Nat) (t:Nat→Bool) (n:Nat) (ns:List Nat) (a:Nat):Prop:=a+n≤W∧(∀ j,j<n→t (a+j)=false)∧Fit W (puts t a n) ns
theorem lay_ok {ws ps:List Int} (S:Sml ws ps) {pl:Nat} (hpl:pl<ws.length) (L:List Nat) (hL:∀ i,i∈L→i<ps.length) (hl:L.length≤10):∀ (n fuel:Nat) (t:Nat→Bool) (out:List Int),out.length+n=L.length→n+1≤fuel →
  ∃ l v,g66 fuel t out (castN L) (pB ws ps) (pl:Int)=some (l,v)∧(v=true↔Fit (lenO ws pl) t ((L.drop out.length).map (lenO ps)))
 | 0,fuel,t,out,h,hf=>by
  obtain ⟨fuel,rfl⟩:∃ f,fuel=f+1:=⟨fuel - 1,by omega⟩
  refine ⟨out,true,?_,?_⟩
  ·rw [g66]
   have:decide ((out.length:Int)=((castN L).length:Int))=true:=by simp [castN];omega
   rw [this];rfl
  ·rw [List.drop_eq_nil_of_le (by omega)]
   exact ⟨fun _=>trivial,fun _=>rfl⟩
 | n+1,fuel,t,out,h,hf=>by
  obtain ⟨fuel,rfl⟩:∃ f,fuel=f+1:=⟨fuel - 1,by omega⟩
  have hlt:out.length<L.length:=by omega
  have hi:=hL _ (List.getElem_mem hlt)
  obtain ⟨w1,w2,w3⟩:=lenO_w S hpl
  obtain ⟨p1,p2,p3⟩:=lenO_eq S hi
  generalize hW:lenO ws pl=W at *
  generalize hk:L[out.length]=k at *
  generalize hn:lenO ps k=m at *
  rw [g66]
  have:decide ((out.length:Int)=((castN L).length:Int))=false:=by simp [castN];omega
  rw [this,cond_false]
  have e0:ixL (castN L) (out.length:Int)=some (k:Int):=by
   rw [ixL_nat];unfold castN
   rw [List.getElem?_map,List.getElem?_eq_getElem hlt,hk];rfl
  rw [e0,bsm,show g67 (pB ws ps) (pl:Int) (k:Int)=some (pB ws ps,(pl:Int),(k:Int)) from rfl,bsm]
  simp only
  rw [List.drop_eq_getElem_cons hlt,List.map_cons,hk,hn]
  have hround:∀ a:Nat,a+m≤W→∃ c,g66_r9 (g66 fuel) t out (castN L) (pB ws ps) (pl:Int) (k:Int) (a:Int) ()=some c∧((∃ l,c=.brk l∧Good W t m ((L.drop (out.length+1)).map (lenO ps)) a)∨(c=.next ()∧¬ Good W t m ((L.drop (out.length+1)).map (lenO ps)) a)):=fun a ha=>by
   unfold g66_r9
   rw [ixL_nat,pB_part hi,bsm]
   simp only
   rw [p1,wr_in (by omega) (by omega)]
   have e1:subA 16 t (a:Int) ((a:Int)+(m:Int))=some ((List.range' a m).map t):=by
    unfold subA
    have:(decide (0≤(a:Int))&&(decide ((a:Int)≤(a:Int)+(m:Int))&&(decide ((a:Int)+(m:Int)≤((16:Nat):Int))&&decide ((a:Int)<((16:Nat):Int)))))=true:=by
     simp only [Bool.and_eq_true,decide_eq_true_eq];omega
    rw [this,cond_true,show (a:Int).toNat=a by omega,show ((a:Int)+(m:Int)).toNat - a=m by omega]
   rw [e1,bsm,q68,bsm]
   have hclear:(true∈(List.range' a m).map t)↔¬ ∀ j,j<m→t (a+j)=false:=by
    rw [List.mem_map]
    constructor
    ·rintro ⟨x,hx,hx2⟩ hc
     rw [List.mem_range'_1] at hx
     have:=hc (x - a) (by omega)
     rw [show a+(x - a)=x by omega,hx2] at this;cases this
    ·intro hc
     by_cases he:∃ j,j<m∧t (a+j)=true
     ·obtain ⟨j,h1,h2⟩:=he
      exact ⟨a+j,List.mem_range'_1.2 (by omega),h2⟩
     ·exact absurd (fun j hj=>by
       cases ht:t (a+j) with
       | false=>rfl
       | true=>exact absurd ⟨j,hj,ht⟩ he) hc
   by_cases hc:true∈(List.range' a m).map t
   ·rw [show decide (true∈(List.range' a m).map t)=true from decide_eq_true hc,cond_true]
    exact ⟨_,rfl,.inr ⟨rfl,fun hg=>hclear.1 hc hg.2.1⟩⟩
   ·rw [show decide (true∈(List.range' a m).map t)=false from decide_eq_false hc,cond_false,must_t (decide_eq_true (by omega)),bsm,show ((m:Int) - 0).toNat=m by omega]
    have hcl:∀ j,j<m→t (a+j)=false:=Classical.byContradiction fun hx=>hc (hclear.2 hx)
    have e2:=puts_loop t a m 0 (by omega)
    rw [show (((0:Nat)):Int)=0 from rfl,show puts t a 0=t from rfl,Nat.zero_add] at e2
    rw [e2,bsm,slcL_all,bsm,Go.Proofs.YthjogmcdfokihaaDoor.appL_ok (by simp;omega),bsm]
    obtain ⟨l,v,e3,hv⟩:=lay_ok S hpl L hL hl n fuel (puts t a m) (out++[(a:Int)]) (by simp;omega) (by omega)
    rw [e3,bsm]
    rw [hW,List.length_append,List.length_singleton] at hv
    cases v with
    | true=>exact ⟨_,rfl,.inl ⟨l,rfl,ha,hcl,hv.1 rfl⟩⟩
    | false=>exact ⟨_,rfl,.inr ⟨rfl,fun hg=>(by have:=hv.2 hg.2.2;cases this)⟩⟩
  have hstep:∀ a:Nat,a<W→∃ r,g73_3 (fun a s=>rndC (g66_r9 (g66 fuel) t out (castN L) (pB ws ps) (pl:Int) (k:Int)) a s) (pB ws ps) (pl:Int) (k:Int) (a:Int) (.next ())=some r∧((∃ l,r=.brk (.brk l)∧Good W t m ((L.drop (out.length+1)).map (lenO ps)) a)∨(r=.next (.next ())∧¬ Good W t m ((L.drop (out.length+1)).map (lenO ps)) a)):=fun a ha=>by
   unfold g73_3
   have e74:g74 (pB ws ps) (Plank_spot.mk (pl:Int) (k:Int) (a:Int))=some (decide (a+m≤W)):=by
    unfold g74
    simp only
    rw [ixL_nat,pB_plank hpl,bsm,ixL_nat,pB_part hi,bsm]
    simp only
    rw [w1,p1,wr_in (by omega) (by omega)]
    unfold g48
    rw [bsm]
    congr 1
    rw [Bool.eq_iff_iff]
    simp only [Bool.and_eq_true,decide_eq_true_eq]
    omega
   rw [e74,bsm]
   by_cases hle:a+m≤W
   ·rw [show decide (a+m≤W)=true from decide_eq_true hle]
    have e75:gW75 (pB ws ps) (Plank_spot.mk (pl:Int) (k:Int) (a:Int))=some 2:=by
     unfold gW75
     have:canB (pB ws ps) (Plank_spot.mk (pl:Int) (k:Int) (a:Int))=true:=by
      unfold canB
      simp only
      rw [ixL_nat,pB_part hi];rfl
     rw [this];rfl
    simp only [Bool.not_true,cond_false,e75,bsm]
    obtain ⟨c,e,hc⟩:=hround a hle
    rw [show decide ((2:Int)<2)=false from rfl,cond_false]
    simp only [rndC,e,bsm]
    rcases hc with ⟨l,rfl,hg⟩ | ⟨rfl,hg⟩
    ·exact ⟨_,rfl,.inl ⟨l,rfl,hg⟩⟩
    ·exact ⟨_,rfl,.inr ⟨rfl,hg⟩⟩
   ·rw [show decide (a+m≤W)=false from decide_eq_false hle]
    exact ⟨_,rfl,.inr ⟨rfl,fun hg=>hle hg.1⟩⟩
  have hloop:∀ (d i:Nat),i+d=W→∃ r,forC (g73_3 (fun a s=>rndC (g66_r9 (g66 fuel) t out (castN L) (pB ws ps) (pl:Int) (k:Int)) a s) (pB ws ps) (pl:Int) (k:Int)) d (i:Int) (.next ())=some r ∧
    ((∃ l,r=.brk (.brk l)∧∃ a,Good W t m ((L.drop (out.length+1)).map (lenO ps)) a)∨(r=.next (.next ())∧∀ a,i≤a→a<W→¬ Good W t m ((L.drop (out.length+1)).map (lenO ps)) a)):=fun d=>by
   induction d with
   | zero=>intro i hi';exact ⟨_,rfl,.inr ⟨rfl,fun a h1 h2=>by omega⟩⟩
   | succ d ih=>
    intro i hi'
    obtain ⟨r,e,hr⟩:=hstep i (by omega)
    rw [forC,e,bsm]
    rcases hr with ⟨l,rfl,hg⟩ | ⟨rfl,hg⟩
    ·exact ⟨_,rfl,.inl ⟨l,rfl,i,hg⟩⟩
    ·obtain ⟨r2,e2,h2⟩:=ih (i+1) (by omega)
     rw [show (((i+1:Nat)):Int)=(i:Int)+1 by omega] at e2
     refine ⟨r2,e2,?_⟩
     rcases h2 with h2 | ⟨h2,h3⟩
     ·exact .inl h2
     ·refine .inr ⟨h2,fun a h4 h5=>?_⟩
      by_cases ea:a=i
      ·rw [ea];exact hg
      ·exact h3 a (by omega) h5
  obtain ⟨r,e,hr⟩:=hloop W 0 (by omega)
  unfold g73
  rw [ixL_nat,pB_plank hpl,bsm]
  simp only
  rw [w1,must_t (decide_eq_true (by omega)),bsm,show ((W:Int) - 0).toNat=W by omega]
  rw [show (((0:Nat)):Int)=0 from rfl] at e
  rw [e]
  rcases hr with ⟨l,rfl,a,hg⟩ | ⟨rfl,hg⟩
  ·exact ⟨l,true,rfl,fun _=>⟨a,hg⟩,fun _=>rfl⟩
  ·refine ⟨[],false,rfl,fun h=>(by cases h),fun ⟨a,h1,h2⟩=>?_⟩
   exact absurd ⟨h1,h2⟩ (hg a (by omega) (by omega))
theorem laid_ok {ws ps:List Int} (S:Sml ws ps) {pl:Nat} (hpl:pl<ws.length) (L:List Nat) (hL:∀ i,i∈L→i<ps.length) (hl:L.length≤10):∃ l,g53 (pB ws ps) (pl:Int) (castN L)=some (l,decide ((L.map (lenO ps)).sum≤lenO ws pl)):=by
 unfold g53
 have e69:g69=some (fun _=>false):=by
  unfold g69
  congr 1
  funext k
  unfold arrB
  match k with
  | 0 | 1 | 2 | 3 | 4 | 5 | 6 | 7 | 8 | 9 | 10 | 11 | 12 | 13 | 14 | 15=>rfl
  | n+16=>rfl
 obtain ⟨l,v,e,hv⟩:=lay_ok S hpl L hL hl L.length 1000 (fun _=>false) [] (by simp) (by omega)
 rw [e69,bsm,e,bsm]
 have:v=decide ((L.map (lenO ps)).sum≤lenO ws pl):=by
  rw [Bool.eq_iff_iff,hv,decide_eq_true_eq]
  exact fit_iff _
 exact ⟨l,by rw [this]⟩
end Go.Proofs.YthjogmcdfokihaaDoor
namespace Go.Proofs.YthjogmcdfokihaaDoor
open Go.Abs Go.Proofs.Tp
def bitsN (s:Nat):List Nat:=(List.range 4).filter fun i=>s.testBit i
theorem factListed:((List.range 16).all fun s=>g29 (s:Int)==some (castN (bitsN s)))=true:=by kernel_rfl
theorem q29 {s:Nat} (h:s<16):g29 (s:Int)=some (castN (bitsN s)):=by
 have:=List.all_eq_true.1 factListed s (List.mem_range.2 h)
 simpa using this
theorem mem_bits {s i:Nat}:i∈bitsN s↔i<4∧s.testBit i=true:=by
 unfold bitsN
 rw [List.mem_filter,List.mem_range]
def subs (S:Nat):List Nat:=(List.range (S+1)).reverse.filter fun t=>t &&& S==t
def chainB (S:Nat):List Nat→Bool
 | []=>false
 | [x]=>Nat.beq x 0
 | x::y::r=>!(Nat.beq x 0)&&decide (bAnd (wr ((x:Int) - 1)) (S:Int)=(y:Int))&&chainB S (y::r)
theorem factChain:((List.range 16).all fun S=>chainB S (subs S)&&(subs S).head?==some S&&(subs S).all fun T=>decide (T<16)&&decide (bAndN (S:Int) (T:Int)=((S - T:Nat):Int))&&decide (S - T<16)&&(List.range 4).all fun i=>((S - T).testBit i==(S.testBit i&&!T.testBit i))&&(!(T.testBit i)||S.testBit i))=true:=by kernel_rfl
structure SubT (S T:Nat):Prop where
 t16:T<16
 d:bAndN (S:Int) (T:Int)=((S - T:Nat):Int)
 d16:S - T<16
 bit:∀ i,i<4→(S - T).testBit i=(S.testBit i&&!T.testBit i)
 sub:∀ i,i<4→T.testBit i=true→S.testBit i=true
theorem subs_ok {S:Nat} (h:S<16):chainB S (subs S)=true∧(subs S).head?=some S∧∀ T,T∈subs S→SubT S T:=by
 have:=List.all_eq_true.1 factChain S (List.mem_range.2 h)
 simp only [Bool.and_eq_true,beq_iff_eq] at this
 refine ⟨this.1.1,this.1.2,fun T hT=>?_⟩
 have h2:=List.all_eq_true.1 this.2 T hT
 simp only [Bool.and_eq_true,decide_eq_true_eq,List.all_eq_true,beq_iff_eq] at h2
 refine ⟨h2.1.1.1,h2.1.1.2,h2.1.2,fun i hi=>(h2.2 i (List.mem_range.2 hi)).1,fun i hi ht=>?_⟩
 have:=(h2.2 i (List.mem_range.2 hi)).2
 rw [ht] at this
 simpa using this
def sumO (ps:List Int) (T:Nat):Nat:=((bitsN T).map (lenO ps)).sum
def Cut (ws ps:List Int):List Nat→Nat→Bool
 | [],S=>Nat.beq S 0
 | pl::r,S=>Nat.beq S 0||(subs S).any fun T=>decide (sumO ps T≤lenO ws pl)&&Cut ws ps r (S - T)
theorem castN_cons (a:Nat) (l:List Nat):castN (a::l)=(a:Int)::castN l:=rfl
theorem q27 {ws ps:List Int} (S0:Sml ws ps):∀ (pls:List Nat) (fuel:Nat) (S:Nat),pls.length+1≤fuel→pls.length≤10→(∀ i,i∈pls→i<ws.length)→S<16→(∀ i,S.testBit i=true→i<ps.length) →
  g27 fuel (pB ws ps) (S:Int) (castN pls)=some (Cut ws ps pls S)
 | [],fuel,S,hf,_,_,hS,_=>by
  obtain ⟨fuel,rfl⟩:∃ f,fuel=f+1:=⟨fuel - 1,by omega⟩
  rw [g27]
  by_cases h0:S=0
  ·subst h0;rfl
  ·rw [show decide ((S:Int)=0)=false from decide_eq_false (by omega),cond_false]
   have:Nat.beq S 0=false:=by cases hb:Nat.beq S 0 with | true=>exact absurd (Nat.eq_of_beq_eq_true hb) h0 | false=>rfl
   unfold Cut
   rw [this];rfl
 | pl::r,fuel,S,hf,h10,hpl,hS,hbit=>by
  obtain ⟨fuel,rfl⟩:∃ f,fuel=f+1:=⟨fuel - 1,by omega⟩
  rw [g27]
  by_cases h0:S=0
  ·subst h0
   rw [show decide (((0:Nat):Int)=0)=true from rfl,cond_true]
   rfl
  ·rw [show decide ((S:Int)=0)=false from decide_eq_false (by omega),cond_false]
   have hb0:Nat.beq S 0=false:=by cases hb:Nat.beq S 0 with | true=>exact absurd (Nat.eq_of_beq_eq_true hb) h0 | false=>rfl
   rw [castN_cons,show decide ((((pl:Int)::castN r).length:Int)=0)=false from decide_eq_false (by simp;omega),cond_false]
   obtain ⟨hch,hhd,hsub⟩:=subs_ok hS
   simp only [List.length_cons] at hf h10
   have hround:∀ T,T∈subs S→g27_7 (g27 fuel) (pB ws ps) (S:Int) ((pl:Int)::castN r) (T:Int)=some (bif decide (sumO ps T≤lenO ws pl)&&Cut ws ps r (S - T) then .brk (.brk true) else bif Nat.beq T 0 then .brk (.brk false) else .next (bAnd (wr ((T:Int) - 1)) (S:Int))):=fun T hT=>by
    have hs:=hsub T hT
    unfold g27_7
    rw [show ixL ((pl:Int)::castN r) 0=some (pl:Int) from rfl,bsm,q29 hs.t16,bsm]
    have hmem:∀ i,i∈bitsN T→i<ps.length:=fun i hi=>by
     obtain ⟨h1,h2⟩:=mem_bits.1 hi
     exact hbit i (hs.sub i h1 h2)
    have hlen:(bitsN T).length≤10:=by
     have:(bitsN T).length≤(List.range 4).length:=List.length_filter_le _ _
     simp at this;omega
    obtain ⟨l,e⟩:=laid_ok S0 (hpl pl (by simp)) (bitsN T) hmem hlen
    rw [e,bsm]
    simp only
    have et:decide ((T:Int)=0)=Nat.beq T 0:=by
     rw [Bool.eq_iff_iff,decide_eq_true_eq,Nat.beq_eq];omega
    by_cases hfit:sumO ps T≤lenO ws pl
    ·rw [show decide (((bitsN T).map (lenO ps)).sum≤lenO ws pl)=true from decide_eq_true hfit,cond_true,show decide (sumO ps T≤lenO ws pl)=true from decide_eq_true hfit,Bool.true_and]
     have e3:slcL ((pl:Int)::castN r) 1 ((((pl:Int)::castN r).length:Nat):Int)=some (castN r):=by
      unfold slcL
      have:(decide ((0:Int)≤1)&&(decide ((1:Int)≤((((pl:Int)::castN r).length:Nat):Int))&&decide (((((pl:Int)::castN r).length:Nat):Int)≤((((pl:Int)::castN r).length:Nat):Int))))=true:=by
       simp only [Bool.and_eq_true,decide_eq_true_eq,List.length_cons];omega
      rw [this,cond_true]
      congr 1
      show List.take _ (castN r)=_
      rw [List.take_of_length_le]
      simp
     rw [e3,bsm,hs.d,q27 S0 r fuel (S - T) (by omega) (by omega) (fun i hi=>hpl i (by simp [hi])) hs.d16 (fun i hi=>by
      by_cases h4:i<4
      ·rw [hs.bit i h4,Bool.and_eq_true] at hi
       exact hbit i hi.1
      ·have hlt:S - T<2 ^ i:=Nat.lt_of_lt_of_le hs.d16 (by
        have:2 ^ 4≤2 ^ i:=Nat.pow_le_pow_right (by omega) (by omega)
        omega)
       rw [Nat.testBit_lt_two_pow hlt] at hi;cases hi),bsm]
     cases Cut ws ps r (S - T) with
     | true=>rfl
     | false=>
      simp only [cond_false,bindC]
      rw [et]
      cases Nat.beq T 0<;>rfl
    ·rw [show decide (((bitsN T).map (lenO ps)).sum≤lenO ws pl)=false from decide_eq_false hfit,cond_false,show decide (sumO ps T≤lenO ws pl)=false from decide_eq_false hfit,Bool.false_and]
     simp only [cond_false,bindC]
     rw [et]
     cases Nat.beq T 0<;>rfl
   have hloop:∀ (l:List Nat) (x:Nat) (k:Nat),(∀ T,T∈x::l→T∈subs S)→chainB S (x::l)=true→l.length+1≤k→whileC (g27_7 (g27 fuel) (pB ws ps) (S:Int) ((pl:Int)::castN r)) k (x:Int)=some (.brk ((x::l).any fun T=>decide (sumO ps T≤lenO ws pl)&&Cut ws ps r (S - T))):=fun l=>by
    induction l with
    | nil=>
     intro x k hm hc hk
     obtain ⟨k,rfl⟩:∃ k',k=k'+1:=⟨k - 1,by omega⟩
     rw [whileC,hround x (hm x (by simp)),bsm]
     rw [chainB] at hc
     rw [hc]
     cases hx:(decide (sumO ps x≤lenO ws pl)&&Cut ws ps r (S - x))<;>simp [hx]
    | cons y l ih=>
     intro x k hm hc hk
     obtain ⟨k,rfl⟩:∃ k',k=k'+1:=⟨k - 1,by omega⟩
     rw [whileC,hround x (hm x (by simp)),bsm]
     rw [chainB] at hc
     simp only [Bool.and_eq_true,Bool.not_eq_true',decide_eq_true_eq] at hc
     rw [List.any_cons]
     cases hx:(decide (sumO ps x≤lenO ws pl)&&Cut ws ps r (S - x)) with
     | true=>rfl
     | false=>
      rw [hc.1.1,hc.1.2]
      simp only [cond_false,Bool.false_or]
      exact ih y k (fun T hT=>hm T (List.mem_cons_of_mem _ hT)) hc.2 (by simpa using hk)
   cases hl:subs S with
   | nil=>rw [hl] at hhd;cases hhd
   | cons x l=>
    rw [hl] at hhd hch
    cases hhd
    have h16:l.length+1≤1000:=by
     have:(subs S).length≤((List.range (S+1)).reverse).length:=List.length_filter_le _ _
     rw [hl] at this
     simp at this;omega
    rw [hloop l S 1000 (fun T hT=>by rw [hl];exact hT) hch h16]
    have eC:Cut ws ps (pl::r) S=(Nat.beq S 0||(subs S).any fun T=>decide (sumO ps T≤lenO ws pl)&&Cut ws ps r (S - T)):=by rw [Cut]
    rw [eC,hb0,Bool.false_or,hl]
    rfl
end Go.Proofs.YthjogmcdfokihaaDoor
namespace Go.Proofs.YthjogmcdfokihaaDoor
open Go.Abs Go.Proofs.Tp
theorem eachS_true {α:Type} {f:Int→α→Bool→Option Bool}:∀ (xs:List α) (i:Int),(∀ i x,x∈xs→f i x true=some true)→eachS f xs i true=some true
 | [],i,_=>rfl
 | x::xs,i,h=>by rw [eachS,h i x (by simp),bsm,eachS_true xs (i+1) (fun i y hy=>h i y (by simp [hy]))]
theorem q18 {ws ps:List Int} (S:Sml ws ps) (n1:1≤ws.length) (k1:1≤ps.length):g18 (pB ws ps)=some 0:=by
 have:=S.n3;have:=S.k4
 unfold g18
 have e48:∀ n a c,g48 n a c=some (rg n a c):=fun _ _ _=>rfl
 simp only [e48,bsm]
 have l1:(pB ws ps).Planks.length=ws.length:=by simp [pB]
 have l2:(pB ws ps).Parts.length=ps.length:=by simp [pB]
 rw [l1,l2,show rg (ws.length:Int) 1 3=true from rg_iff.2 ⟨by omega,by omega⟩,cond_true,show rg (ps.length:Int) 1 5=true from rg_iff.2 ⟨by omega,by omega⟩,bsm]
 rw [eachS_true (pB ws ps).Planks 0 (fun i x hx=>by
  unfold pB at hx
  simp only [List.mem_map] at hx
  obtain ⟨w,hw,rfl⟩:=hx
  have:=S.w w hw
  unfold g18_8
  rw [cond_true]
  have:g49 ⟨w,[]⟩=some true:=by
   unfold g49
   rw [e48,bsm,show rg w 1 16=true from rg_iff.2 this]
   rfl
  rw [this];rfl),bsm]
 rw [eachS_true (pB ws ps).Parts 0 (fun i x hx=>by
  unfold pB at hx
  simp only [List.mem_map] at hx
  obtain ⟨w,hw,rfl⟩:=hx
  have:=S.p w hw
  unfold g18_21
  rw [cond_true]
  have:g50 ⟨w,[],false⟩=some true:=by
   unfold g50
   rw [e48,bsm,show rg w 1 12=true from rg_iff.2 this]
   rfl
  rw [this];rfl),bsm]
 rfl
theorem q62t (x y:Int):∃ r,g62 x y=some r:=by
 unfold g62
 rw [show g71 x=some (decide (x≠x)) from rfl,bsm,show g71 y=some (decide (y≠y)) from rfl,bsm]
 simp only [ne_eq,not_true_eq_false,decide_false,cond_false]
 cases decide (x<y)<;>cases decide (y<x)<;>exact ⟨_,rfl⟩
theorem q41_loop (s2:List Int):∀ (xs:List Int) (i:Nat),∃ c,eachC (g41_3 s2) xs (i:Int) ()=some c
 | [],i=>⟨_,rfl⟩
 | x::xs,i=>by
  rw [eachC]
  unfold g41_3
  by_cases hv:(s2.length:Int)≤(i:Int)
  ·rw [show decide ((s2.length:Int)≤(i:Int))=true by simpa using hv];exact ⟨_,rfl⟩
  ·rw [show decide ((s2.length:Int)≤(i:Int))=false by simpa using hv,cond_false,ixL_nat,List.getElem?_eq_getElem (by omega),bsm]
   obtain ⟨r,e⟩:=q62t x (s2[i]'(by omega))
   rw [e,bsm]
   cases decide (r≠0) with
   | true=>exact ⟨_,rfl⟩
   | false=>
    obtain ⟨c,hc⟩:=q41_loop s2 xs (i+1)
    rw [show (((i+1:Nat)):Int)=(i:Int)+1 by omega] at hc
    exact ⟨c,hc⟩
theorem q54 (l m:List Int):∃ r,g54 l m=some r∧(r=true→l.length≤m.length)∧(r=false→m.length≤l.length):=by
 unfold g54
 by_cases h:(l.length:Int)<(m.length:Int)
 ·rw [show decide ((l.length:Int)<(m.length:Int))=true from decide_eq_true h]
  exact ⟨true,rfl,fun _=>by omega,fun h=>(by cases h)⟩
 ·rw [show decide ((l.length:Int)<(m.length:Int))=false from decide_eq_false h]
  by_cases h2:(l.length:Int)=(m.length:Int)
  ·rw [show decide ((l.length:Int)=(m.length:Int))=true from decide_eq_true h2]
   have:∃ r,g41 l m=some r:=by
    unfold g41
    obtain ⟨c,hc⟩:=q41_loop m l 0
    rw [show (((0:Nat)):Int)=0 from rfl] at hc
    rw [hc]
    cases c with
    | brk r=>exact ⟨_,rfl⟩
    | next s=>cases decide ((l.length:Int)<(m.length:Int))<;>simp only [bindC]<;>exact ⟨_,rfl⟩
   obtain ⟨r,e⟩:=this
   simp only [cond_false,cond_true,e,bsm]
   exact ⟨_,rfl,fun _=>by omega,fun _=>by omega⟩
  ·rw [show decide ((l.length:Int)=(m.length:Int))=false from decide_eq_false h2]
   exact ⟨false,rfl,fun h=>(by cases h),fun _=>by omega⟩
theorem bit_lt {s n i:Nat} (h:s<2 ^ n) (hb:s.testBit i=true):i<n:=by
 by_cases hi:i<n
 ·exact hi
 ·have:s<2 ^ i:=Nat.lt_of_lt_of_le h (Nat.pow_le_pow_right (by omega) (by omega))
  rw [Nat.testBit_lt_two_pow this] at hb;cases hb
def goodB (ws ps:List Int) (s:Nat):Bool:=Cut ws ps (bitsN s) (2 ^ ps.length - 1)
theorem factPow:((List.range 5).all fun K=>decide (wr (shl64 1 (K:Int) - 1)=((2 ^ K - 1:Nat):Int))&&decide (shl64 1 (K:Int)=((2 ^ K:Nat):Int))&&decide (2 ^ K - 1<16)&&decide (2 ^ K≤16))=true:=by kernel_rfl
theorem pow_is {K:Nat} (h:K≤4):wr (shl64 1 (K:Int) - 1)=((2 ^ K - 1:Nat):Int)∧shl64 1 (K:Int)=((2 ^ K:Nat):Int)∧2 ^ K - 1<16∧2 ^ K≤16:=by
 have:=List.all_eq_true.1 factPow K (List.mem_range.2 (by omega))
 simp only [Bool.and_eq_true,decide_eq_true_eq] at this
 exact ⟨this.1.1.1,this.1.1.2,this.1.2,this.2⟩
theorem q26 {ws ps:List Int} (S:Sml ws ps) {s:Nat} (hs:s<2 ^ ws.length):g26 (s:Int) (pB ws ps)=some (goodB ws ps s):=by
 have h3:=S.n3;have h4:=S.k4
 have l2:(pB ws ps).Parts.length=ps.length:=by simp [pB]
 unfold g26 g28
 rw [l2,must_t (decide_eq_true (by omega)),bsm,(pow_is h4).1,bsm]
 have hs16:s<16:=Nat.lt_of_lt_of_le hs (pow_is (show ws.length≤4 by omega)).2.2.2
 rw [q29 hs16,bsm]
 have hl:(bitsN s).length≤10:=by
  have:(bitsN s).length≤(List.range 4).length:=List.length_filter_le _ _
  simp at this;omega
 rw [q27 S (bitsN s) 1000 (2 ^ ps.length - 1) (by omega) hl (fun i hi=>bit_lt hs (mem_bits.1 hi).2) (pow_is h4).2.2.1 (fun i hi=>by
  rw [Nat.testBit_two_pow_sub_one] at hi
  simpa using hi)]
 rfl
def FewIs (ws ps:List Int) (r:List Int×Int):Prop:=(r=([],4)∧∀ s,s<2 ^ ws.length→goodB ws ps s=false) ∨
 ∃ s0,r=(castN (bitsN s0),0)∧s0<2 ^ ws.length∧goodB ws ps s0=true∧∀ s,s<2 ^ ws.length→goodB ws ps s=true→(bitsN s0).length≤(bitsN s).length
theorem q10 {ws ps:List Int} (S:Sml ws ps) (n1:1≤ws.length) (k1:1≤ps.length):∃ r,g10 (pB ws ps)=some r∧FewIs ws ps r:=by
 have h3:=S.n3;have h4:=S.k4
 unfold g10
 rw [q18 S n1 k1,bsm]
 rw [show decide ((0:Int)≠0)=false from rfl,cond_false]
 have e23:g23 (pB ws ps)=some (pB ws ps,[(⟨-1,-1,-1⟩,0)]):=rfl
 rw [e23,bsm]
 simp only
 rw [show must (wimB [(⟨-1,-1,-1⟩,0)])=some () from rfl,bsm,show g24=some () from rfl,bsm]
 have l1:(pB ws ps).Planks.length=ws.length:=by simp [pB]
 rw [l1]
 obtain ⟨p1,p2,p3,p4⟩:=pow_is (show ws.length≤4 by omega)
 unfold g25
 rw [must_t (decide_eq_true (by omega)),bsm,p2,must_t (decide_eq_true (Int.le_trans (Int.ofNat_le.2 p4) (by decide))),bsm,show (((2 ^ ws.length:Nat):Int) - 0).toNat=2 ^ ws.length by rw [Int.sub_zero,Int.toNat_natCast]]
 obtain ⟨st,e,hI⟩:=forS_inv (f:=g25_4 (pB ws ps)) (fun (v:Int) (s:List Int×Bool)=>(s.2=true→∃ s0,s0<2 ^ ws.length∧goodB ws ps s0=true∧s.1=castN (bitsN s0)∧∀ t:Nat,(t:Int)<v→t<2 ^ ws.length→goodB ws ps t=true→(bitsN s0).length≤(bitsN t).length) ∧
   (s.2=false→s.1=[]∧∀ t:Nat,(t:Int)<v→t<2 ^ ws.length→goodB ws ps t=false))
  (2 ^ ws.length) 0 ([],false) ⟨fun h=>(by cases h),fun _=>⟨rfl,fun t ht _=>by omega⟩⟩ (fun v s hv1 hv2 hs=>by
   obtain ⟨best,found⟩:=s
   obtain ⟨hf,hn⟩:=hs
   simp only at hf hn
   have hv:((v.toNat:Nat):Int)=v:=by omega
   have hlt:v.toNat<2 ^ ws.length:=by omega
   rw [← hv] at hf hn ⊢
   generalize v.toNat=u at *
   unfold g25_4
   simp only
   rw [q29 (by omega),bsm]
   have up:∀ t:Nat,(t:Int)<(u:Int)+1→t≠u→(t:Int)<(u:Int):=fun t h1 h2=>by omega
   cases found with
   | false=>
    simp only [Bool.not_false,cond_true,bsm,q26 S hlt]
    obtain ⟨hb,hn⟩:=hn rfl
    cases hg:goodB ws ps u with
    | true=>
     refine ⟨_,rfl,fun _=>⟨u,hlt,hg,rfl,fun t ht h2 hgt=>?_⟩,fun h=>(by cases h)⟩
     by_cases e:t=u
     ·rw [e];exact Nat.le_refl _
     ·rw [hn t (up t ht e) h2] at hgt;cases hgt
    | false=>
     refine ⟨_,rfl,fun h=>(by cases h),fun _=>⟨hb,fun t ht h2=>?_⟩⟩
     by_cases e:t=u
     ·rw [e];exact hg
     ·exact hn t (up t ht e) h2
   | true=>
    obtain ⟨s0,s1,s2,s3,s4⟩:=hf rfl
    obtain ⟨r,er,r1,r2⟩:=q54 (castN (bitsN u)) best
    simp only [Bool.not_true,cond_false,er,bsm]
    have lc:∀ l:List Nat,(castN l).length=l.length:=fun l=>by simp [castN]
    subst s3
    rw [lc,lc] at r1 r2
    cases r with
    | false=>
     refine ⟨_,rfl,fun _=>⟨s0,s1,s2,rfl,fun t ht h2 hgt=>?_⟩,fun h=>(by cases h)⟩
     by_cases e:t=u
     ·rw [e];exact r2 rfl
     ·exact s4 t (up t ht e) h2 hgt
    | true=>
     simp only [cond_true,q26 S hlt,bsm]
     cases hg:goodB ws ps u with
     | true=>
      refine ⟨_,rfl,fun _=>⟨u,hlt,hg,rfl,fun t ht h2 hgt=>?_⟩,fun h=>(by cases h)⟩
      by_cases e:t=u
      ·rw [e];exact Nat.le_refl _
      ·exact Nat.le_trans (r1 rfl) (s4 t (up t ht e) h2 hgt)
     | false=>
      refine ⟨_,rfl,fun _=>⟨s0,s1,s2,rfl,fun t ht h2 hgt=>?_⟩,fun h=>(by cases h)⟩
      by_cases e:t=u
      ·rw [e,hg] at hgt;cases hgt
      ·exact s4 t (up t ht e) h2 hgt)
 obtain ⟨best,found⟩:=st
 obtain ⟨hf,hn⟩:=hI
 simp only at hf hn
 rw [e,bsm]
 simp only
 rw [slcL_all,bsm]
 have hin:∀ t:Nat,t<2 ^ ws.length→(t:Int)<0+((2 ^ ws.length:Nat):Int):=fun t ht=>by omega
 cases found with
 | false=>
  obtain ⟨hb,hn⟩:=hn rfl
  exact ⟨_,rfl,.inl ⟨rfl,fun s hs=>hn s (hin s hs) hs⟩⟩
 | true=>
  obtain ⟨s0,s1,s2,s3,s4⟩:=hf rfl
  subst s3
  exact ⟨_,rfl,.inr ⟨s0,rfl,s1,s2,fun s hs hg=>s4 s (hin s hs) hs hg⟩⟩
end Go.Proofs.YthjogmcdfokihaaDoor
namespace Go.Proofs.YthjogmcdfokihaaDoor
open Go.Abs Go.Proofs.Tp
def ld (ps:List Int) (q:Nat→Nat) (S h:Nat):Nat:=(((bitsN S).filter fun i=>q i==h).map (lenO ps)).sum
theorem bits_filter (S:Nat) (f:Nat→Bool):(bitsN S).filter f=(List.range 4).filter fun i=>f i&&S.testBit i:=by
 unfold bitsN
 rw [List.filter_filter]
theorem bits_eq {S:Nat} {f:Nat→Bool} {T:Nat} (h:∀ i,i<4→(f i&&S.testBit i)=T.testBit i):(bitsN S).filter f=bitsN T:=by
 rw [bits_filter]
 unfold bitsN
 exact List.filter_congr fun i hi=>h i (List.mem_range.1 hi)
theorem bits_eq2 {S U:Nat} {f g:Nat→Bool} (h:∀ i,i<4→(f i&&S.testBit i)=(g i&&U.testBit i)):(bitsN S).filter f=(bitsN U).filter g:=by
 rw [bits_filter,bits_filter]
 exact List.filter_congr fun i hi=>h i (List.mem_range.1 hi)
def mk4 (f:Nat→Bool):Nat:=(bif f 0 then 1 else 0)+(bif f 1 then 2 else 0)+(bif f 2 then 4 else 0)+(bif f 3 then 8 else 0)
theorem mk4_bit (f:Nat→Bool) {i:Nat} (h:i<4):(mk4 f).testBit i=f i:=by
 unfold mk4
 match i,h with
 | 0,_=>cases h0:f 0<;>cases f 1<;>cases f 2<;>cases f 3<;>rfl
 | 1,_=>cases f 0<;>cases h0:f 1<;>cases f 2<;>cases f 3<;>rfl
 | 2,_=>cases f 0<;>cases f 1<;>cases h0:f 2<;>cases f 3<;>rfl
 | 3,_=>cases f 0<;>cases f 1<;>cases f 2<;>cases h0:f 3<;>rfl
theorem mk4_lt (f:Nat→Bool):mk4 f<16:=by
 unfold mk4
 cases f 0<;>cases f 1<;>cases f 2<;>cases f 3<;>decide
theorem sub_mem (S F:Nat):S &&& F∈subs S:=by
 unfold subs
 rw [List.mem_filter,List.mem_reverse,List.mem_range]
 refine ⟨Nat.lt_succ_of_le Nat.and_le_left,?_⟩
 rw [beq_iff_eq,Nat.and_comm S F,Nat.and_assoc,Nat.and_self]
theorem factBits0:((List.range 16).all fun S=>!((bitsN S).isEmpty)||Nat.beq S 0)=true:=by kernel_rfl
theorem cut_iff {ws ps:List Int}:∀ (pls:List Nat) (S:Nat),pls.Nodup→S<16→(Cut ws ps pls S=true↔∃ q:Nat→Nat,(∀ i,i∈bitsN S→q i∈pls)∧∀ h,h∈pls→ld ps q S h≤lenO ws h)
 | [],S,_,hS=>by
  unfold Cut
  constructor
  ·intro h
   have:=Nat.eq_of_beq_eq_true h
   subst this
   exact ⟨fun _=>0,fun i hi=>by
    have:=(mem_bits.1 hi).2
    simp at this,fun h hh=>by cases hh⟩
  ·rintro ⟨q,h1,_⟩
   have:=List.all_eq_true.1 factBits0 S (List.mem_range.2 hS)
   cases hb:bitsN S with
   | nil=>rw [hb] at this;simpa using this
   | cons x l=>exact absurd (h1 x (by rw [hb];simp)) (by simp)
 | pl::r,S,hnd,hS=>by
  obtain ⟨hn1,hn2⟩:=List.nodup_cons.1 hnd
  obtain ⟨_,_,hsub⟩:=subs_ok hS
  rw [Cut]
  rw [Bool.or_eq_true,List.any_eq_true]
  constructor
  ·rintro (h0 | ⟨T,hT,hc⟩)
   ·have:=Nat.eq_of_beq_eq_true h0
    subst this
    refine ⟨fun _=>0,fun i hi=>?_,fun h hh=>?_⟩
    ·have:=(mem_bits.1 hi).2
     simp at this
    ·unfold ld
     rw [show bitsN 0=[] from rfl]
     exact Nat.zero_le _
   ·simp only [Bool.and_eq_true,decide_eq_true_eq] at hc
    have hs:=hsub T hT
    obtain ⟨q,h1,h2⟩:=(cut_iff r (S - T) hn2 hs.d16).1 hc.2
    have hq:∀ i,i<4→T.testBit i=false→S.testBit i=true→q i∈r:=fun i hi ht hb=>h1 i (mem_bits.2 ⟨hi,by rw [hs.bit i hi,ht,hb];rfl⟩)
    refine ⟨fun i=>if T.testBit i=true then pl else q i,fun i hi=>?_,fun h hh=>?_⟩
    ·obtain ⟨hi,hb⟩:=mem_bits.1 hi
     cases ht:T.testBit i with
     | true=>
      show (if T.testBit i=true then pl else q i)∈pl::r
      rw [if_pos ht];exact List.mem_cons_self
     | false=>
      show (if T.testBit i=true then pl else q i)∈pl::r
      rw [if_neg (by rw [ht];simp)];exact List.mem_cons_of_mem _ (hq i hi ht hb)
    ·by_cases e:h=pl
     ·subst e
      have:(bitsN S).filter (fun i=>(if T.testBit i=true then h else q i)==h)=bitsN T:=bits_eq fun i hi=>by
       cases ht:T.testBit i with
       | true=>rw [hs.sub i hi ht];simp
       | false=>
        cases hb:S.testBit i with
        | false=>simp
        | true=>
         have:=hq i hi ht hb
         have hne:q i≠h:=fun e=>hn1 (e▸this)
         simp [hne]
      unfold ld
      rw [this]
      exact hc.1
     ·have hr:h∈r:=(List.mem_cons.1 hh).resolve_left e
      have:(bitsN S).filter (fun i=>(if T.testBit i=true then pl else q i)==h)=(bitsN (S - T)).filter (fun i=>q i==h):=bits_eq2 fun i hi=>by
       rw [hs.bit i hi]
       cases ht:T.testBit i with
       | true=>
        have:(pl==h)=false:=beq_eq_false_iff_ne.2 (fun h'=>e h'.symm)
        simp [this]
       | false=>simp
      unfold ld
      rw [this]
      exact h2 h hr
  ·rintro ⟨q,h1,h2⟩
   refine .inr ⟨S &&& mk4 (fun i=>q i==pl),sub_mem _ _,?_⟩
   have hs:=hsub _ (sub_mem S (mk4 (fun i=>q i==pl)))
   have hT:∀ i,i<4→(S &&& mk4 (fun i=>q i==pl)).testBit i=(S.testBit i&&(q i==pl)):=fun i hi=>by rw [Nat.testBit_and,mk4_bit _ hi]
   rw [Bool.and_eq_true,decide_eq_true_eq]
   refine ⟨?_,?_⟩
   ·have:=h2 pl (by simp)
    unfold ld at this
    rw [bits_eq (T:=S &&& mk4 (fun i=>q i==pl)) (fun i hi=>by rw [hT i hi,Bool.and_comm])] at this
    exact this
   ·refine (cut_iff r _ hn2 hs.d16).2 ⟨q,fun i hi=>?_,fun h hh=>?_⟩
    ·obtain ⟨hi,hb⟩:=mem_bits.1 hi
     rw [hs.bit i hi,hT i hi,Bool.and_eq_true] at hb
     have hm:=h1 i (mem_bits.2 ⟨hi,hb.1⟩)
     rcases List.mem_cons.1 hm with e | hm
     ·rw [e,hb.1] at hb;simp at hb
     ·exact hm
    ·have hne:h≠pl:=fun e=>hn1 (e▸hh)
     have:=h2 h (by simp [hh])
     unfold ld at this ⊢
     rw [bits_eq2 (S:=S - (S &&& mk4 (fun i=>q i==pl))) (U:=S) (f:=fun i=>q i==h) (g:=fun i=>q i==h) (fun i hi=>by
      rw [hs.bit i hi,hT i hi]
      cases hb:S.testBit i with
      | false=>simp
      | true=>
       by_cases e:q i=pl
       ·have:(q i==h)=false:=beq_eq_false_iff_ne.2 (fun e2=>hne (e2.symm.trans e))
        rw [this];simp
       ·have:(q i==pl)=false:=beq_eq_false_iff_ne.2 e
        rw [this];simp)]
     exact this
theorem bits_nodup (s:Nat):(bitsN s).Nodup:=List.Pairwise.filter _ List.nodup_range
theorem good_iff {ws ps:List Int} (S:Sml ws ps) (s:Nat):goodB ws ps s=true↔∃ q:Nat→Nat,(∀ i,i<ps.length→q i∈bitsN s)∧∀ h,h∈bitsN s→ld ps q (2 ^ ps.length - 1) h≤lenO ws h:=by
 have h4:=S.k4
 unfold goodB
 rw [cut_iff _ _ (bits_nodup s) (pow_is h4).2.2.1]
 constructor
 ·rintro ⟨q,h1,h2⟩
  exact ⟨q,fun i hi=>h1 i (mem_bits.2 ⟨by omega,by rw [Nat.testBit_two_pow_sub_one];simpa using hi⟩),h2⟩
 ·rintro ⟨q,h1,h2⟩
  refine ⟨q,fun i hi=>h1 i ?_,h2⟩
  have:=(mem_bits.1 hi).2
  rw [Nat.testBit_two_pow_sub_one] at this
  simpa using this
end Go.Proofs.YthjogmcdfokihaaDoor
namespace Go.Proofs.YthjogmcdfokihaaDoor
open Go.Abs Go.Proofs.Tp
def prs:List Int→List HairHorse
 | a::b::r=>⟨a,b,0⟩::prs r
 | _=>[]
def hkO (w:Int):HairHank:=⟨⟨w,w⟩,⟨0,0⟩⟩
def hB (ws ps:List Int):HairBook:=⟨ws.map hkO,prs ps,0,0,0⟩
inductive Even4:List Int→Prop where
 | two (a b:Int):Even4 [a,b]
 | four (a b c d:Int):Even4 [a,b,c,d]
theorem Even4.len {ps:List Int} (h:Even4 ps):(ps.length=2∨ps.length=4)∧2*(prs ps).length=ps.length:=by cases h<;>exact ⟨by simp,rfl⟩
theorem q9_2:∀ (xs:List PlankWood) (i:Int) (acc:List HairHank),acc.length+xs.length≤100→eachS g9_2 xs i acc=some (acc++xs.map fun p=>hkO p.Long)
 | [],i,acc,_=>by simp [eachS]
 | x::xs,i,acc,h=>by
  simp only [List.length_cons] at h
  have e:g9_2 i x acc=some (acc++[hkO x.Long]):=by
   unfold g9_2
   rw [show g14 x.Long=some (Span.mk x.Long x.Long) from rfl,bsm,Go.Proofs.YthjogmcdfokihaaDoor.appL_ok (by simp;omega)]
   rfl
  rw [eachS,e,bsm,q9_2 xs (i+1) _ (by simp;omega)]
  simp
theorem q9 {ws ps:List Int} (hn:ws.length≤100) (he:Even4 ps):g9 (pB ws ps)=some (hB ws ps):=by
 unfold g9
 rw [q9_2 _ 0 [] (by simp [pB];exact hn),bsm]
 have e1:([]:List HairHank)++(pB ws ps).Planks.map (fun p=>hkO p.Long)=ws.map hkO:=by
  rw [List.nil_append]
  show (ws.map _).map _=_
  rw [List.map_map];rfl
 rw [e1]
 have e2:whileC (g9_15 (pB ws ps)) 1000 ((0,[]):Int×(List HairHorse))=some (prs ps):=by cases he<;>rfl
 rw [e2];rfl
theorem okB {ws ps:List Int} (S:Sml ws ps) (he:Even4 ps):okH (hB ws ps)=true:=by
 have h3:=S.n3
 unfold okH
 have l1:(hB ws ps).Hanks.length=ws.length:=by simp [hB]
 have l2:(prs ps).length≤2:=by have:=he.len;omega
 have a1:(hB ws ps).Hanks.all okHank=true:=by
  rw [List.all_eq_true]
  intro x hx
  unfold hB at hx
  simp only [List.mem_map] at hx
  obtain ⟨w,hw,rfl⟩:=hx
  have:=S.w w hw
  unfold okHank okSpan hkO
  simp only [Bool.and_eq_true,decide_eq_true_eq]
  refine ⟨⟨⟨⟨by omega,by omega⟩,by omega⟩,by rw [Int.sub_self];decide⟩,by decide⟩
 have a2:(hB ws ps).Horses.all okHorse=true:=by
  have hp:=S.p
  show (prs ps).all okHorse=true
  cases he with
  | two a b=>
   have ha:=hp a (by simp);have hb:=hp b (by simp)
   simp only [prs,List.all_cons,List.all_nil,Bool.and_true,okHorse,Bool.and_eq_true,rg_iff]
   omega
  | four a b c d=>
   have ha:=hp a (by simp);have hb:=hp b (by simp);have hc:=hp c (by simp);have hd:=hp d (by simp)
   simp only [prs,List.all_cons,List.all_nil,Bool.and_true,okHorse,Bool.and_eq_true,rg_iff]
   omega
 rw [a1,a2,l1]
 have:(decide ((ws.length:Int)≤4)&&decide (((hB ws ps).Horses.length:Int)≤3))=true:=by
  simp only [Bool.and_eq_true,decide_eq_true_eq]
  refine ⟨by omega,?_⟩
  show ((prs ps).length:Int)≤3
  omega
 rw [this];rfl
theorem dyeB {ws ps:List Int} {q:List Int} (h:∀ n,n∈q→0≤n∧n<ws.length) (hl:q.length=2*(prs ps).length) (hs:∀ x,x∈prs ps→x.Shade=0):dyeK (hB ws ps) q=true:=by
 unfold dyeK
 rw [List.all_eq_true]
 rintro ⟨x,j⟩ hx
 have hg:=List.mem_zipIdx' hx
 have hj:j<(prs ps).length:=hg.1
 have hx0:x.Shade=0:=hs x (by rw [hg.2];exact List.getElem_mem _)
 simp only
 have hsh:∀ n,n∈q→shOf (hB ws ps) n 0=⟨0,0⟩:=fun n hn=>by
  have:=h n hn
  unfold shOf
  have e:(hB ws ps).Hanks[n.toNat]?=some (hkO (ws[n.toNat]'(by omega))):=by
   show (ws.map hkO)[n.toNat]?=_
   rw [List.getElem?_map,List.getElem?_eq_getElem (by omega)];rfl
  rw [e];rfl
 have m1:(q[2*j]?).getD 0∈q:=by rw [List.getElem?_eq_getElem (by omega),Option.getD_some];exact List.getElem_mem _
 have m2:(q[2*j+1]?).getD 0∈q:=by rw [List.getElem?_eq_getElem (by omega),Option.getD_some];exact List.getElem_mem _
 generalize (q[2*j]?).getD 0=m at *
 generalize (q[2*j+1]?).getD 0=t at *
 have hm:mB (hB ws ps) 0 m t 0 0=true:=by
  unfold mB
  rw [hsh m m1,hsh t m2]
  cases decide (m=t)<;>rfl
 rw [hx0]
 have hD:((hB ws ps).Dark+1).toNat=1:=rfl
 unfold dyesF
 rw [hD]
 have f1:firstI (fun t_1=>mB (hB ws ps) 0 m t 0 t_1) 1 0=some 0:=by
  rw [firstI,hm];rfl
 have f2:firstI (fun m_1=>(firstI (fun t_1=>mB (hB ws ps) 0 m t m_1 t_1) 1 0).isSome) 1 0=some 0:=by
  rw [firstI,f1];rfl
 rw [f2];rfl
theorem prs_shade:∀ (ps:List Int) x,x∈prs ps→x.Shade=0
 | [],x,h=>by cases h
 | [_],x,h=>by cases h
 | a::b::r,x,h=>by
  rcases List.mem_cons.1 h with rfl | h
  ·rfl
  ·exact prs_shade r x h
theorem partN_is {ws ps:List Int} (he:Even4 ps) {v:Nat} (hv:v<ps.length):partN (hB ws ps) v=ps.getD v 0:=by
 cases he with
 | two a b=>
  match v,hv with
  | 0,_=>rfl
  | 1,_=>rfl
  | n+2,h=>simp at h;omega
 | four a b c d=>
  match v,hv with
  | 0,_=>rfl
  | 1,_=>rfl
  | 2,_=>rfl
  | 3,_=>rfl
  | n+4,h=>simp at h;omega
theorem cut_ld {ws ps:List Int} (S:Sml ws ps) (he:Even4 ps) {p:List Int} (hl:p.length=ps.length) (q:Nat→Nat) (hq:∀ i,i<ps.length→p[i]?=some (q i:Int)) (h:Nat):cutS (hB ws ps) p 0 (h:Int)=(ld ps q (2 ^ ps.length - 1) h:Int):=by
 have hp:=S.p
 have key:∀ (x y:Nat),(decide ((x:Int)=(y:Int)))=(x==y):=fun x y=>by
  rw [Bool.eq_iff_iff,decide_eq_true_eq,beq_iff_eq];omega
 cases he with
 | two a b=>
  have ha:=hp a (by simp);have hb:=hp b (by simp)
  match p,hl with
  | [x,y],_=>
   have h0:x=(q 0:Int):=by simpa using hq 0 (by simp)
   have h1:y=(q 1:Int):=by simpa using hq 1 (by simp)
   subst h0;subst h1
   have e0:lenO [a,b] 0=a.toNat:=rfl
   have e1:lenO [a,b] 1=b.toNat:=rfl
   simp only [cutS,key]
   rw [partN_is (.two a b) (by simp),partN_is (.two a b) (by simp)]
   unfold ld
   rw [show bitsN (2 ^ [a,b].length - 1)=[0,1] by kernel_rfl]
   cases q0:(q 0==h)<;>cases q1:(q 1==h)<;>simp [List.filter,q0,q1,e0,e1]<;>omega
 | four a b c d=>
  have ha:=hp a (by simp);have hb:=hp b (by simp);have hc:=hp c (by simp);have hd:=hp d (by simp)
  match p,hl with
  | [x,y,z,u],_=>
   have h0:x=(q 0:Int):=by simpa using hq 0 (by simp)
   have h1:y=(q 1:Int):=by simpa using hq 1 (by simp)
   have h2:z=(q 2:Int):=by simpa using hq 2 (by simp)
   have h3:u=(q 3:Int):=by simpa using hq 3 (by simp)
   subst h0;subst h1;subst h2;subst h3
   have e0:lenO [a,b,c,d] 0=a.toNat:=rfl
   have e1:lenO [a,b,c,d] 1=b.toNat:=rfl
   have e2:lenO [a,b,c,d] 2=c.toNat:=rfl
   have e3:lenO [a,b,c,d] 3=d.toNat:=rfl
   simp only [cutS,key]
   rw [partN_is (.four a b c d) (by simp),partN_is (.four a b c d) (by simp),partN_is (.four a b c d) (by simp),partN_is (.four a b c d) (by simp)]
   unfold ld
   rw [show bitsN (2 ^ [a,b,c,d].length - 1)=[0,1,2,3] by kernel_rfl]
   cases q0:(q 0==h)<;>cases q1:(q 1==h)<;>cases q2:(q 2==h)<;>cases q3:(q 3==h)<;>simp [List.filter,q0,q1,q2,q3,e0,e1,e2,e3]<;>omega
theorem works_iff {ws ps:List Int} (S:Sml ws ps) (he:Even4 ps) {p:List Int} (hpl:planB (hB ws ps) p=true):worksB (hB ws ps) p=true↔∀ h:Nat,h<ws.length→cutS (hB ws ps) p 0 (h:Int)≤(lenO ws h:Int):=by
 obtain ⟨hl,hr⟩:=planB_iff.1 hpl
 have hr':∀ n,n∈p→0≤n∧n<ws.length:=fun n hn=>by
  have:=hr n hn
  rw [show (hB ws ps).Hanks.length=ws.length by simp [hB]] at this
  exact this
 unfold worksB
 rw [dyeB hr' hl (prs_shade ps),Bool.and_true]
 have:=fitP_iff (b:=hB ws ps) (by_:=(·.Low)) (p:=p)
 unfold fitP at this
 unfold fitK
 rw [this]
 constructor
 ·intro h k hk
  have:=h k (hkO ws[k]) (by show (ws.map hkO)[k]?=_;rw [List.getElem?_map,List.getElem?_eq_getElem hk];rfl)
  have e:=(lenO_w S hk).1
  rw [← e];exact this
 ·intro h k x hx
  have hk:k<ws.length:=by
   have:=(List.getElem?_eq_some_iff.1 hx).1
   simpa [hB] using this
  have e2:x=hkO ws[k]:=by
   have h2:(ws.map hkO)[k]?=some x:=hx
   rw [List.getElem?_map,List.getElem?_eq_getElem hk] at h2
   exact (Option.some.inj h2).symm
  have:=h k hk
  rw [← (lenO_w S hk).1] at this
  rw [e2];exact this
def usedL (n:Nat) (p:List Int):List Nat:=(List.range n).filter fun h=>decide ((h:Int)∈p)
theorem good_of_plan {ws ps:List Int} (S:Sml ws ps) (he:Even4 ps) {p:List Int} (hpl:planB (hB ws ps) p=true) (hw:worksB (hB ws ps) p=true):∃ s,s<2 ^ ws.length∧goodB ws ps s=true∧(bitsN s).length=(usedL ws.length p).length:=by
 have h3:=S.n3
 obtain ⟨hl,hr⟩:=planB_iff.1 hpl
 have hlen:p.length=ps.length:=by rw [hl];exact he.len.2
 have lH:(hB ws ps).Hanks.length=ws.length:=by simp [hB]
 rw [lH] at hr
 let s:=mk4 (fun h=>decide ((h:Int)∈p))
 have hbit:∀ i,i<4→s.testBit i=decide ((i:Int)∈p):=fun i hi=>mk4_bit _ hi
 have hin:∀ i:Nat,(i:Int)∈p→i<ws.length:=fun i hi=>by have:=hr _ hi;omega
 have hb:bitsN s=usedL ws.length p:=by
  unfold bitsN usedL
  rw [show (4:Nat)=ws.length+(4 - ws.length) by omega,List.range_add,List.filter_append]
  rw [show List.filter (fun i=>s.testBit i) (List.map (fun x=>ws.length+x) (List.range (4 - ws.length)))=[] by
   rw [List.filter_eq_nil_iff]
   intro i hi
   rw [List.mem_map] at hi
   obtain ⟨x,hx,rfl⟩:=hi
   have:=List.mem_range.1 hx
   rw [hbit _ (by omega)]
   intro h
   have:=hin _ (of_decide_eq_true h)
   omega,List.append_nil]
  exact List.filter_congr fun i hi=>hbit i (by have:=List.mem_range.1 hi;omega)
 refine ⟨s,?_,?_,by rw [hb]⟩
 ·apply Nat.lt_pow_two_of_testBit
  intro i hi
  by_cases h4:i<4
  ·rw [hbit i h4]
   exact decide_eq_false fun h=>by have:=hin i h;omega
  ·exact Nat.testBit_lt_two_pow (Nat.lt_of_lt_of_le (mk4_lt _) (show 2 ^ 4≤2 ^ i from Nat.pow_le_pow_right (by omega) (by omega)))
 ·refine (good_iff S s).2 ⟨fun i=>((p[i]?).getD 0).toNat,fun i hi=>?_,fun h hh=>?_⟩
  ·have hg:p[i]?=some (p[i]'(by omega)):=List.getElem?_eq_getElem (by omega)
   have hm:p[i]'(by omega)∈p:=List.getElem_mem _
   have hr1:=hr _ hm
   simp only [hg,Option.getD_some]
   refine mem_bits.2 ⟨by omega,?_⟩
   rw [hbit _ (by omega)]
   exact decide_eq_true (by rw [show (((p[i]'(by omega)).toNat:Nat):Int)=p[i]'(by omega) by omega];exact hm)
  ·have hmem:(h:Int)∈p:=by
    have:=(mem_bits.1 hh)
    rw [hbit _ this.1] at this
    exact of_decide_eq_true this.2
   have:=(works_iff S he hpl).1 hw h (hin h hmem)
   rw [cut_ld S he hlen (fun i=>((p[i]?).getD 0).toNat) (fun i hi=>by
    have hg:p[i]?=some (p[i]'(by omega)):=List.getElem?_eq_getElem (by omega)
    have hr1:=hr _ (List.getElem_mem (show i<p.length by omega))
    simp only [hg,Option.getD_some]
    congr 1;omega)] at this
   omega
theorem plan_of_good {ws ps:List Int} (S:Sml ws ps) (he:Even4 ps) {s:Nat} (hs:s<2 ^ ws.length) (hg:goodB ws ps s=true):∃ p,planB (hB ws ps) p=true∧worksB (hB ws ps) p=true∧(usedL ws.length p).length≤(bitsN s).length:=by
 have h3:=S.n3
 obtain ⟨q,h1,h2⟩:=(good_iff S s).1 hg
 let p:List Int:=castN ((List.range ps.length).map q)
 have hlen:p.length=ps.length:=by simp [p,castN]
 have lH:(hB ws ps).Hanks.length=ws.length:=by simp [hB]
 have hget:∀ i,i<ps.length→p[i]?=some (q i:Int):=fun i hi=>by
  show (castN ((List.range ps.length).map q))[i]?=_
  unfold castN
  rw [List.getElem?_map,List.getElem?_map,List.getElem?_range hi];rfl
 have hmem:∀ x,x∈p→∃ i,i<ps.length∧x=(q i:Int):=fun x hx=>by
  obtain ⟨i,hi⟩:=List.getElem?_of_mem hx
  have hlt:=(List.getElem?_eq_some_iff.1 hi).1
  rw [hlen] at hlt
  rw [hget i hlt] at hi
  exact ⟨i,hlt,(Option.some.inj hi).symm⟩
 have hqlt:∀ i,i<ps.length→q i<ws.length:=fun i hi=>bit_lt hs (mem_bits.1 (h1 i hi)).2
 have hpl:planB (hB ws ps) p=true:=planB_iff.2 ⟨by rw [hlen];exact he.len.2.symm,fun x hx=>by
  obtain ⟨i,hi,rfl⟩:=hmem x hx
  have:=hqlt i hi
  rw [lH];omega⟩
 refine ⟨p,hpl,(works_iff S he hpl).2 fun h hh=>?_,?_⟩
 ·rw [cut_ld S he hlen q hget h]
  by_cases hb:h∈bitsN s
  ·have:=h2 h hb;omega
  ·have:ld ps q (2 ^ ps.length - 1) h=0:=by
    unfold ld
    rw [show (bitsN (2 ^ ps.length - 1)).filter (fun i=>q i==h)=[] by
     rw [List.filter_eq_nil_iff]
     intro i hi
     have hi2:=(mem_bits.1 hi).2
     rw [Nat.testBit_two_pow_sub_one] at hi2
     have hi3:i<ps.length:=by simpa using hi2
     rw [beq_iff_eq]
     intro e
     exact hb (e▸h1 i hi3)]
    rfl
   rw [this];omega
 ·have hsub:∀ h,h<ws.length→decide ((h:Int)∈p)=true→s.testBit h=true:=fun h hh hd=>by
   obtain ⟨i,hi,e⟩:=hmem _ (of_decide_eq_true hd)
   have:h=q i:=by omega
   rw [this];exact (mem_bits.1 (h1 i hi)).2
  unfold usedL bitsN
  rw [← List.countP_eq_length_filter,← List.countP_eq_length_filter]
  refine Nat.le_trans (List.countP_mono_left (q:=fun i=>s.testBit i) fun h hh=>hsub h (List.mem_range.1 hh)) ?_
  have:List.Sublist (List.range ws.length) (List.range 4):=List.range_sublist.2 (by omega)
  exact this.countP_le
theorem served_good {ws ps:List Int} (S:Sml ws ps) (he:Even4 ps):servedB (hB ws ps)=true↔∃ s,s<2 ^ ws.length∧goodB ws ps s=true:=by
 rw [served_iff]
 constructor
 ·rintro ⟨p,h1,h2⟩
  obtain ⟨s,h3,h4,_⟩:=good_of_plan S he h1 h2
  exact ⟨s,h3,h4⟩
 ·rintro ⟨s,h1,h2⟩
  obtain ⟨p,h3,h4,_⟩:=plan_of_good S he h1 h2
  exact ⟨p,h3,h4⟩
end Go.Proofs.YthjogmcdfokihaaDoor
namespace Go.Proofs.YthjogmcdfokihaaDoor
open Go.Abs Go.Proofs.Tp
theorem tb {α β:Type} {o:Option α} {f:α→Option β} (h:∃ a,o=some a) (k:∀ a,∃ r,f a=some r):∃ r,o.bind f=some r:=by
 obtain ⟨a,rfl⟩:=h;exact k a
theorem eachS_tot {α S:Type} {f:Int→α→S→Option S} (h:∀ i x s,∃ s',f i x s=some s'):∀ (xs:List α) (i:Int) (s:S),∃ s',eachS f xs i s=some s'
 | [],i,s=>⟨s,rfl⟩
 | x::xs,i,s=>tb (h i x s) fun s'=>eachS_tot h xs (i+1) s'
theorem t49_7 (x:PlankWood) (i:Int) (p:Span) (ok:Bool):∃ s',g49_7 x i p ok=some s':=by
 unfold g49_7
 exact tb (by cases ok<;>exact ⟨_,rfl⟩) fun v=>⟨_,rfl⟩
theorem t49 (x:PlankWood):∃ r,g49 x=some r:=by
 unfold g49
 exact tb ⟨_,rfl⟩ fun r0=>tb (by cases r0<;>exact ⟨_,rfl⟩) fun v=>tb (eachS_tot (t49_7 x) _ _ _) fun ok=>⟨_,rfl⟩
theorem t50_7 (x:PlankShape) (i:Int) (p:Int) (s:Bool×Int):∃ s',g50_7 x i p s=some s':=by
 obtain ⟨ok,last⟩:=s
 unfold g50_7
 exact tb (by cases ok<;>exact ⟨_,rfl⟩) fun v=>⟨_,rfl⟩
theorem t50 (x:PlankShape):∃ r,g50 x=some r:=by
 unfold g50
 exact tb ⟨_,rfl⟩ fun r0=>tb (by cases r0<;>exact ⟨_,rfl⟩) fun v=>tb (eachS_tot (t50_7 x) _ _ _) fun ok=>⟨_,rfl⟩
theorem q18t (b:PlankBook):∃ r,g18 b=some r:=by
 unfold g18
 refine tb ⟨_,rfl⟩ fun r0=>tb (by cases r0<;>exact ⟨_,rfl⟩) fun v=>tb (eachS_tot (fun i p ok=>?_) _ _ _) fun ok=>tb (eachS_tot (fun i p ok=>?_) _ _ _) fun ok1=>?_
 ·unfold g18_8
  refine tb ?_ fun v=>⟨_,rfl⟩
  cases ok with
  | false=>exact ⟨_,rfl⟩
  | true=>exact tb (t49 p) fun r=>⟨_,rfl⟩
 ·unfold g18_21
  refine tb ?_ fun v=>⟨_,rfl⟩
  cases ok with
  | false=>exact ⟨_,rfl⟩
  | true=>exact tb (t50 p) fun r=>⟨_,rfl⟩
 ·cases ok1<;>exact ⟨_,rfl⟩
theorem w5_11 (b:PlankBook) (hl:b.Planks.length≤100):∀ (n i fuel:Nat) (ok:Bool),i+n=b.Planks.length→n+2≤fuel→whileC (g5_11 b) fuel (ok,(i:Int))=some (ok&&(b.Planks.drop i).all fun p=>rg p.Long 1 16)
 | n,i,0,ok,_,hf=>by omega
 | n,i,fuel+1,false,_,hf=>rfl
 | 0,i,fuel+1,true,hi,hf=>by
  rw [whileC]
  unfold g5_11
  rw [List.drop_eq_nil_of_le (by omega)]
  simp only [cond_true,bsm]
  rw [decide_eq_false (show ¬ (i:Int)<(b.Planks.length:Int) by omega)]
  rfl
 | n+1,i,fuel+1,true,hi,hf=>by
  have hlt:i<b.Planks.length:=by omega
  rw [whileC]
  have e:g5_11 b (true,(i:Int))=some (.next (rg (b.Planks[i]).Long 1 16,((i+1:Nat):Int))):=by
   unfold g5_11
   simp only [cond_true,bsm]
   rw [decide_eq_true (show (i:Int)<(b.Planks.length:Int) by omega)]
   simp only [cond_true]
   rw [ixL_nat,List.getElem?_eq_getElem hlt,bsm,wr_in (by omega) (by omega)]
   rfl
  rw [e,bsm]
  simp only
  rw [w5_11 b hl n (i+1) fuel _ (by omega) (by omega),List.drop_eq_getElem_cons hlt,List.all_cons,Bool.true_and]
theorem w5_23 (b:PlankBook) (hl:b.Parts.length≤100):∀ (n i fuel:Nat) (ok:Bool),i+n=b.Parts.length→n+2≤fuel→whileC (g5_23 b) fuel (ok,(i:Int))=some (ok&&(b.Parts.drop i).all fun p=>rg p.Long 1 12)
 | n,i,0,ok,_,hf=>by omega
 | n,i,fuel+1,false,_,hf=>rfl
 | 0,i,fuel+1,true,hi,hf=>by
  rw [whileC]
  unfold g5_23
  rw [List.drop_eq_nil_of_le (by omega)]
  simp only [cond_true,bsm]
  rw [decide_eq_false (show ¬ (i:Int)<(b.Parts.length:Int) by omega)]
  rfl
 | n+1,i,fuel+1,true,hi,hf=>by
  have hlt:i<b.Parts.length:=by omega
  rw [whileC]
  have e:g5_23 b (true,(i:Int))=some (.next (rg (b.Parts[i]).Long 1 12,((i+1:Nat):Int))):=by
   unfold g5_23
   simp only [cond_true,bsm]
   rw [decide_eq_true (show (i:Int)<(b.Parts.length:Int) by omega)]
   simp only [cond_true]
   rw [ixL_nat,List.getElem?_eq_getElem hlt,bsm,wr_in (by omega) (by omega)]
   rfl
  rw [e,bsm]
  simp only
  rw [w5_23 b hl n (i+1) fuel _ (by omega) (by omega),List.drop_eq_getElem_cons hlt,List.all_cons,Bool.true_and]
structure SmlB (b:PlankBook):Prop where
 n1:1≤b.Planks.length
 n3:b.Planks.length≤3
 k2:2≤b.Parts.length
 k5:b.Parts.length≤5
 w:∀ x,x∈b.Planks→1≤x.Long∧x.Long≤16
 p:∀ x,x∈b.Parts→1≤x.Long∧x.Long≤12
theorem q5 (b:PlankBook):∃ r,g5 b=some r∧(r=true→SmlB b):=by
 obtain ⟨r,hr⟩:=q18t b
 unfold g5
 rw [hr,bsm]
 have f23:whileC (g5_23 b) 1000 (false,0)=some false:=rfl
 have f11:whileC (g5_11 b) 1000 (false,0)=some false:=rfl
 have stop:((whileC (g5_11 b) 1000 (false,0)).bind fun ok1=>some ok1).bind (fun ok=>((whileC (g5_23 b) 1000 (ok,0)).bind fun ok4=>some ok4).bind fun ok3=>(bif ok3 then (some (decide (1<(b.Parts.length:Int)))) else (some false)).bind fun v4=>some v4)=some false:=by
  rw [f11];simp only [bsm];rw [f23];rfl
 by_cases h0:r=0
 ·rw [decide_eq_true h0,cond_true]
  have e1:g19 (b.Planks.length:Int) 1 3=some (rg (b.Planks.length:Int) 1 3):=rfl
  have e2:g19 (b.Parts.length:Int) 1 5=some (rg (b.Parts.length:Int) 1 5):=rfl
  rw [e1]
  simp only [bsm]
  cases h1:rg (b.Planks.length:Int) 1 3 with
  | false=>
   simp only [cond_false,bsm]
   exact ⟨false,stop,fun h=>(by cases h)⟩
  | true=>
   rw [e2]
   simp only [cond_true,bsm]
   cases h2:rg (b.Parts.length:Int) 1 5 with
   | false=>exact ⟨false,stop,fun h=>(by cases h)⟩
   | true=>
    rw [rg_iff] at h1 h2
    have e3:=w5_11 b (by omega) b.Planks.length 0 1000 true (by omega) (by omega)
    rw [show ((0:Nat):Int)=0 from rfl] at e3
    rw [e3]
    simp only [bsm,Bool.true_and,List.drop_zero]
    have e4:=w5_23 b (by omega) b.Parts.length 0 1000 (b.Planks.all fun p=>rg p.Long 1 16) (by omega) (by omega)
    rw [show ((0:Nat):Int)=0 from rfl] at e4
    rw [e4]
    simp only [bsm,List.drop_zero]
    cases h3:(b.Planks.all fun p=>rg p.Long 1 16)&&(b.Parts.all fun p=>rg p.Long 1 12) with
    | false=>exact ⟨false,rfl,fun h=>(by cases h)⟩
    | true=>
     refine ⟨_,rfl,fun h=>?_⟩
     rw [decide_eq_true_eq] at h
     simp only [Bool.and_eq_true,List.all_eq_true,rg_iff] at h3
     exact ⟨by omega,by omega,by omega,by omega,h3.1,h3.2⟩
 ·rw [decide_eq_false h0]
  exact ⟨false,stop,fun h=>(by cases h)⟩
theorem q7_2:∀ (xs:List PlankWood) (i:Int) (acc:List PlankWood),acc.length+xs.length≤100→eachS g7_2 xs i acc=some (acc++xs.map fun p=>PlankWood.mk p.Long [])
 | [],i,acc,_=>by simp [eachS]
 | x::xs,i,acc,h=>by
  simp only [List.length_cons] at h
  have e:g7_2 i x acc=some (acc++[PlankWood.mk x.Long []]):=by
   unfold g7_2
   rw [Go.Proofs.YthjogmcdfokihaaDoor.appL_ok (by simp;omega)]
   rfl
  rw [eachS,e,bsm,q7_2 xs (i+1) _ (by simp;omega)]
  simp
theorem q7_parts {b:PlankBook} (S:SmlB b):∃ ps,Even4 ps∧(∀ x,x∈ps→1≤x∧x≤12)∧forS (g7_13 b) ((((wr ((wr ((b.Parts.length:Int).tdiv 2))*2)):Int) - 0).toNat) 0 ([]:List PlankShape)=some (ps.map fun p=>PlankShape.mk p [] false)∧ps.length≤b.Parts.length:=by
 obtain ⟨ws,parts⟩:=b
 have hp:=S.p
 match parts,S.k2,S.k5 with
 | [x,y],_,_=>
  have h1:=hp x (by simp);have h2:=hp y (by simp)
  exact ⟨[x.Long,y.Long],.two _ _,by simp;omega,by kernel_rfl,by simp⟩
 | [x,y,z],_,_=>
  have h1:=hp x (by simp);have h2:=hp y (by simp)
  exact ⟨[x.Long,y.Long],.two _ _,by simp;omega,by kernel_rfl,by simp⟩
 | [x,y,z,u],_,_=>
  have h1:=hp x (by simp);have h2:=hp y (by simp);have h3:=hp z (by simp);have h4:=hp u (by simp)
  exact ⟨[x.Long,y.Long,z.Long,u.Long],.four _ _ _ _,by simp;omega,by kernel_rfl,by simp⟩
 | [x,y,z,u,v],_,_=>
  have h1:=hp x (by simp);have h2:=hp y (by simp);have h3:=hp z (by simp);have h4:=hp u (by simp)
  exact ⟨[x.Long,y.Long,z.Long,u.Long],.four _ _ _ _,by simp;omega,by kernel_rfl,by simp⟩
 | [],h,_=>simp at h
 | [_],h,_=>simp at h
 | _::_::_::_::_::_::_,_,h=>simp at h
theorem q7 {b:PlankBook} (S:SmlB b):∃ ws ps,Even4 ps∧Sml ws ps∧ws.length=b.Planks.length∧ps.length≤b.Parts.length∧g7 b=some ((pB ws ps).Planks,(pB ws ps).Parts)∧g7a b=some (pB ws ps):=by
 obtain ⟨ps,he,hp,e,hl⟩:=q7_parts S
 have h2:=q7_2 b.Planks 0 [] (by have:=S.n3;simp;omega)
 have e1:g7 b=some ((pB (b.Planks.map (·.Long)) ps).Planks,(pB (b.Planks.map (·.Long)) ps).Parts):=by
  unfold g7
  rw [h2,bsm,e,bsm]
  simp [pB]
 have e2:g7a b=(g7 b).bind fun x=>some ⟨x.1,x.2⟩:=by
  unfold g7
  rw [h2,bsm,e,bsm,bsm]
  unfold g7a
  rw [show eachS g7a_2 b.Planks 0 ([]:List PlankWood)=_ from h2,bsm]
  rw [show forS (g7a_13 b) ((((wr ((wr ((b.Parts.length:Int).tdiv 2))*2)):Int) - 0).toNat) 0 ([]:List PlankShape)=_ from e,bsm]
 refine ⟨b.Planks.map (·.Long),ps,he,⟨by have:=S.n3;simpa,by have:=he.len;omega,?_,hp⟩,by simp,hl,e1,by rw [e2,e1];rfl⟩
 intro x hx
 rw [List.mem_map] at hx
 obtain ⟨y,hy,rfl⟩:=hx
 exact S.w y hy
end Go.Proofs.YthjogmcdfokihaaDoor
namespace Go.Proofs.YthjogmcdfokihaaDoor
open Go.Abs Go.Proofs.Tp
def sP (b:HairBook):Nat→Nat→Int
 | 0,_=>0
 | n+1,v=>partN b v+sP b n (v+1)
theorem sP_is {ws ps:List Int} (he:Even4 ps):sP (hB ws ps) ps.length 0=ps.sum:=by
 cases he with
 | two a b=>
  simp only [List.length_cons,List.length_nil,sP]
  rw [partN_is (.two a b) (by simp),partN_is (.two a b) (by simp)]
  simp
 | four a b c d=>
  simp only [List.length_cons,List.length_nil,sP]
  rw [partN_is (.four a b c d) (by simp),partN_is (.four a b c d) (by simp),partN_is (.four a b c d) (by simp),partN_is (.four a b c d) (by simp)]
  simp
theorem tot_loop {ps:List Int} (he:Even4 ps) (hp:∀ x,x∈ps→1≤x∧x≤12):eachS g3_21 (ps.map fun p=>PlankShape.mk p [] false) 0 0=some ps.sum∧0≤ps.sum∧ps.sum≤48:=by
 cases he with
 | two a b=>
  have ha:=hp a (by simp);have hb:=hp b (by simp)
  refine ⟨?_,by simp;omega,by simp;omega⟩
  show some (wr (wr (0+a)+b))=_
  rw [wr_in (show -9223372036854775808≤0+a by omega) (by omega),wr_in (by omega) (by omega)]
  simp
 | four a b c d=>
  have ha:=hp a (by simp);have hb:=hp b (by simp);have hc:=hp c (by simp);have hd:=hp d (by simp)
  refine ⟨?_,by simp;omega,by simp;omega⟩
  show some (wr (wr (wr (wr (0+a)+b)+c)+d))=_
  rw [wr_in (show -9223372036854775808≤0+a by omega) (by omega),wr_in (show -9223372036854775808≤0+a+b by omega) (by omega),wr_in (show -9223372036854775808≤0+a+b+c by omega) (by omega),wr_in (by omega) (by omega)]
  congr 1
  simp only [List.sum_cons,List.sum_nil];omega
theorem best_is {ws ps:List Int} (S:Sml ws ps) (he:Even4 ps):(g11 (hB ws ps)=some ([],4)∧∀ s,s<2 ^ ws.length→goodB ws ps s=false) ∨
  ∃ m,g11 (hB ws ps)=some (m,0)∧planB (hB ws ps) m=true∧worksB (hB ws ps) m=true∧∀ q,planB (hB ws ps) q=true→worksB (hB ws ps) q=true→offHi (hB ws ps) m≤offHi (hB ws ps) q:=by
 have ok:=okB S he
 rw [p26]
 unfold bestR
 rw [ok,cond_true]
 rcases bestO_spec (hB ws ps) with ⟨h1,h2⟩ | ⟨m,l1,l2,h1,h2,h3,h4⟩
 ·left
  rw [h1]
  refine ⟨rfl,fun s hs=>?_⟩
  cases hg:goodB ws ps s with
  | false=>rfl
  | true=>
   have:=(served_good S he).2 ⟨s,hs,hg⟩
   rw [bestO_none h1] at this;cases this
 ·right
  rw [h1]
  refine ⟨m,rfl,(bestO_some h1).1,(bestO_some h1).2,fun q hq1 hq2=>?_⟩
  have hq:q∈plansL (hB ws ps) (·.Low):=mem_plans.2 ⟨hq1,hq2⟩
  rw [h2] at hq
  rcases List.mem_append.1 hq with hq | hq
  ·have:=h3 q hq;omega
  ·rcases List.mem_cons.1 hq with rfl | hq
   ·exact Int.le_refl _
   ·exact h4 q hq
theorem mem_rep {n:Nat} {L w:Int} (h:w∈List.replicate n L):w=L:=(List.mem_replicate.1 h).2
end Go.Proofs.YthjogmcdfokihaaDoor
namespace Go.Proofs.YthjogmcdfokihaaDoor
open Go.Abs Go.Proofs.Tp
theorem factU:((List.range 4).all fun T=>(List.range (2 ^ T)).all fun s=>(List.range (2 ^ T)).all fun t=>decide (s=t)||!decide (rk T s=rk T t))=true:=by kernel_rfl
theorem fU {T s t:Nat} (hT:T≤3) (hs:s<2 ^ T) (ht:t<2 ^ T) (h:rk T s=rk T t):s=t:=by
 have:=all3 factU hT hs ht
 rw [Bool.or_eq_true,Bool.not_eq_true',decide_eq_true_eq,decide_eq_false_iff_not] at this
 exact this.resolve_right fun hc=>hc h
theorem keepL_nil (xs:List HairHorse):keepL xs []=xs:=by
 unfold keepL
 have:(xs.zipIdx.filter fun y=>!decide ((y.2:Int)∈([]:List Int)))=xs.zipIdx:=List.filter_eq_self.2 (fun y _=>by simp)
 rw [this]
 apply List.ext_getElem?
 intro k
 rw [List.getElem?_map,List.getElem?_zipIdx]
 cases xs[k]?<;>rfl
theorem wo0 {b:HairBook} (hl:b.Horses.length≤3):woS b 0=b:=by
 unfold woS
 rw [(fz0 hl).1,keepL_nil]
theorem factN:((List.range 4).all fun n=>(List.range (2 ^ n)).all fun s=>Nat.ble (bitsN s).length n)=true:=by kernel_rfl
theorem bits_le {n s:Nat} (hn:n≤3) (hs:s<2 ^ n):(bitsN s).length≤n:=Nat.le_of_ble_eq_true (all2 factN hn hs)
theorem wB_is (ws ps:List Int) (w:Int):wB (hB ws ps) w 0=hB (ws++[w]) ps:=by
 unfold wB hB
 simp [hkO]
theorem perh_is {ws ps:List Int}:perh (hB ws ps) (hB ws ps).Hanks []=servedB (hB ws ps):=by
 have hget:∀ (k:Nat) x,(hB ws ps).Hanks[k]?=some x→∃ w,x=hkO w:=fun k x h=>by
  have:=List.mem_of_getElem? h
  unfold hB at this
  simp only [List.mem_map] at this
  obtain ⟨w,_,rfl⟩:=this
  exact ⟨w,rfl⟩
 have hset:∀ gs,Pick (hB ws ps).Hanks gs→gs=(hB ws ps).Hanks:=fun gs ⟨h1,h2⟩=>by
  apply List.ext_getElem?
  intro k
  cases h:(hB ws ps).Hanks[k]? with
  | none=>
   rw [List.getElem?_eq_none_iff] at h ⊢
   omega
  | some x=>
   obtain ⟨n,n1,n2,n3⟩:=h2 k x h
   obtain ⟨w,rfl⟩:=hget k x h
   have:n=0:=by have e1:(hkO w).Shade.Low=0:=rfl;have e2:(hkO w).Shade.High=0:=rfl;omega
   subst this
   rw [n3];rfl
 have hfit:∀ q,fitP (hB ws ps) (·.High) q=fitP (hB ws ps) (·.Low) q:=fun q=>by
  rw [Bool.eq_iff_iff,fitP_iff,fitP_iff]
  constructor
  ·intro h k x hx
   have:=h k x hx
   obtain ⟨w,rfl⟩:=hget k x hx
   exact this
  ·intro h k x hx
   have:=h k x hx
   obtain ⟨w,rfl⟩:=hget k x hx
   exact this
 have hP:hasP (hB ws ps) (·.High)=hasP (hB ws ps) (·.Low):=by
  rw [Bool.eq_iff_iff,has_iff,has_iff]
  simp only [hfit]
 show _=hasP (hB ws ps) (·.Low)
 rw [← hP,Bool.eq_iff_iff,perh_iff]
 constructor
 ·rintro ⟨gs,h1,h2⟩
  rw [hset gs h1] at h2
  exact h2
 ·intro h
  refine ⟨(hB ws ps).Hanks,⟨rfl,fun k x hx=>?_⟩,h⟩
  obtain ⟨w,rfl⟩:=hget k x hx
  exact ⟨0,by show (0:Int)≤0;omega,by show (0:Int)≤0;omega,by rw [hx];rfl⟩
theorem cut_le {b:HairBook} (ok:OkH b) (k:Int):∀ (p:List Int) (v:Nat),cutS b p v k≤sP b p.length v
 | [],v=>by simp [cutS,sP]
 | q::r,v=>by
  have:=cut_le ok k r (v+1)
  have:=partN_bd ok v
  rw [cutS,List.length_cons,sP]
  cases decide (q=k)<;>simp only [cond_true,cond_false]<;>omega
theorem sixty {ws ps:List Int} (S:Sml ws ps) (he:Even4 ps):servedB (hB (ws++[60]) ps)=true:=by
 rw [served_iff]
 have ok:OkH (hB (ws++[60]) ps):=by rw [← wB_is];exact OkH_wB (okB S he) (by decide) (by decide) (by decide) (by decide)
 have lH:(hB (ws++[60]) ps).Hanks.length=ws.length+1:=by simp [hB]
 have hlen:=he.len.2
 have hor:(hB (ws++[60]) ps).Horses=prs ps:=rfl
 have hmem:∀ x,x∈List.replicate ps.length (ws.length:Int)→0≤x∧x<((ws.length+1:Nat):Int):=fun x hx=>by rw [mem_rep hx];omega
 have hl:(List.replicate ps.length (ws.length:Int)).length=2*(prs ps).length:=by rw [List.length_replicate];omega
 refine ⟨List.replicate ps.length (ws.length:Int),planB_iff.2 ⟨hl,fun x hx=>by rw [lH];exact hmem x hx⟩,?_⟩
 unfold worksB
 rw [dyeB (fun x hx=>by have:=hmem x hx;simp only [List.length_append,List.length_cons,List.length_nil];exact this) hl (prs_shade ps),Bool.and_true]
 unfold fitK
 have hf:=fitP_iff (b:=hB (ws++[60]) ps) (by_:=(·.Low)) (p:=List.replicate ps.length (ws.length:Int))
 unfold fitP at hf
 rw [hf]
 intro k x hx
 have hk:k<ws.length+1:=by have:=(List.getElem?_eq_some_iff.1 hx).1;omega
 by_cases e:k=ws.length
 ·subst e
  have ex:x=hkO 60:=by
   have h2:((ws++[60]).map hkO)[ws.length]?=some x:=hx
   rw [List.getElem?_map,List.getElem?_append_right (Nat.le_refl _),Nat.sub_self] at h2
   exact (Option.some.inj h2).symm
  have h1:=cut_le ok (ws.length:Int) (List.replicate ps.length (ws.length:Int)) 0
  rw [List.length_replicate,sP_is he] at h1
  have h2:=(tot_loop he S.p).2.2
  rw [ex]
  show _≤(60:Int)
  omega
 ·rw [cutS_no (k:Int) _ 0 (fun hm=>e (by have:=mem_rep hm;omega))]
  have h2:=(ok.hanks x (List.mem_of_getElem? hx)).w
  omega
theorem buy_is {ws ps:List Int} (S:Sml ws ps) (he:Even4 ps):∃ w,g17 (hB ws ps) 0=some (w,0)∧((servedB (hB ws ps)=true∧w=0)∨(1≤w∧w≤60∧servedB (hB ws ps)=false∧servedB (hB (ws++[w]) ps)=true∧∀ v,0≤v→v<w→servedB (hB (ws++[v]) ps)=false)):=by
 obtain ⟨r,hr,e⟩:=p31 (okB S he) (s:=0) (by decide) (by decide)
 rw [e]
 rcases hr with ⟨h1,rfl⟩ | ⟨h1,h2,rfl⟩ | ⟨w,h1,h2,h3,rfl,h4,h5⟩
 ·exact ⟨0,rfl,.inl ⟨h1,rfl⟩⟩
 ·rw [wB_is,sixty S he] at h2;cases h2
 ·rw [wB_is] at h4
  exact ⟨w,rfl,.inr ⟨h1,h2,h3,h4,fun v v1 v2=>by have:=h5 v v1 v2;rw [wB_is] at this;exact this⟩⟩
theorem q8_few {ws ps:List Int} (S:Sml ws ps) (he:Even4 ps) (n1:1≤ws.length):∃ l,g10 (pB ws ps)=some (l,bif servedB (hB ws ps) then 0 else 4)∧l.length≤ws.length:=by
 obtain ⟨r,e,hF⟩:=q10 S n1 (by have:=he.len;omega)
 rw [e]
 rcases hF with ⟨rfl,hno⟩ | ⟨s0,rfl,f1,f2,_⟩
 ·have:servedB (hB ws ps)=false:=by
   cases h:servedB (hB ws ps) with
   | false=>rfl
   | true=>
    obtain ⟨s,h1,h2⟩:=(served_good S he).1 h
    rw [hno s h1] at h2;cases h2
  rw [this]
  exact ⟨_,rfl,by simp⟩
 ·rw [(served_good S he).2 ⟨s0,f1,f2⟩]
  exact ⟨_,rfl,by have:=bits_le S.n3 f1;simpa [castN] using this⟩
theorem best_len {ws ps:List Int} (S:Sml ws ps) (he:Even4 ps):∃ m,g11 (hB ws ps)=some (m,bif servedB (hB ws ps) then 0 else 4)∧m.length≤ps.length:=by
 rcases best_is S he with ⟨e,hno⟩ | ⟨m,e,m1,m2,_⟩
 ·have:servedB (hB ws ps)=false:=by
   cases h:servedB (hB ws ps) with
   | false=>rfl
   | true=>
    obtain ⟨s,h1,h2⟩:=(served_good S he).1 h
    rw [hno s h1] at h2;cases h2
  rw [this]
  exact ⟨_,e,by simp⟩
 ·rw [served_iff.2 ⟨m,m1,m2⟩]
  refine ⟨_,e,?_⟩
  have:=(planB_iff.1 m1).1
  have h2:=he.len.2
  have:m.length=2*(prs ps).length:=this
  omega
theorem plain4 (b:PlankBook):g4 b=some true:=by
 obtain ⟨r5,e5,h5⟩:=q5 b
 unfold g4
 rw [e5,bsm]
 cases r5 with
 | false=>simp only [Bool.not_false,cond_true,combed_ok,bsm]
 | true=>
  have SB:=h5 rfl
  obtain ⟨ws,ps,he,S,hl1,hl2,_,e7⟩:=q7 SB
  have n1:1≤ws.length:=by have:=SB.n1;omega
  have n3:=S.n3
  have hok:=okB S he
  have ok:=okH_of hok
  obtain ⟨l,e10,hl⟩:=q8_few S he n1
  obtain ⟨m,e11,hm⟩:=best_len S he
  obtain ⟨t,ht,e15⟩:=p29 hok
  have h3:=ok.l3
  have hp:=pow_pos' (hB ws ps).Horses.length
  obtain ⟨f1,f2,f3,f4⟩:=fz0 h3
  have hlack:decide (((LT (hB ws ps).Horses.length t).length:Int)=0)=servedB (hB ws ps):=by
   cases hv:servedB (hB ws ps) with
   | true=>
    have h:=ht.le 0 (by omega) (by rw [wo0 h3];exact hv)
    have:t=0:=fU h3 ht.lt (by omega) (by omega)
    rw [this,f1];rfl
   | false=>
    rw [decide_eq_false_iff_not]
    intro hc
    have:=f4 t ht.lt (by omega)
    have hs:=ht.sv
    rw [this,wo0 h3,hv] at hs;cases hs
  have e16:g16 (hB ws ps)=some (servedB (hB ws ps),0):=by rw [p33,hok,cond_true,perh_is]
  obtain ⟨w,e17,hw⟩:=buy_is S he
  simp only [Bool.not_true,cond_false,e7,bsm]
  rw [q9 (by omega) he,bsm,e10,bsm,e11,bsm,e15,bsm,e16,bsm]
  simp only
  rw [hlack]
  have lP:(pB ws ps).Parts.length=ps.length:=by simp [pB]
  have lQ:(pB ws ps).Planks.length=ws.length:=by simp [pB]
  have d1:decide (((b.Planks.length:Nat):Int)<(l.length:Int))=false:=decide_eq_false (by omega)
  have d2:decide ((((pB ws ps).Parts.length:Nat):Int)<(m.length:Int))=false:=decide_eq_false (by rw [lP];omega)
  have hw0:decide (w=0)=servedB (hB ws ps):=by
   rcases hw with ⟨h1,h2⟩ | ⟨h1,h2,h3,_⟩
   ·rw [h1,h2];rfl
   ·rw [h3];exact decide_eq_false (by omega)
  have hwn:decide (w<0)=false:=decide_eq_false (by rcases hw with ⟨_,h2⟩ | ⟨h1,_⟩<;>omega)
  have hcond:((((decide ((0:Int)≠0)||decide ((0:Int)≠0))||decide ((bif servedB (hB ws ps) then (0:Int) else 4)≠(bif servedB (hB ws ps) then (0:Int) else 4)))||(decide ((bif servedB (hB ws ps) then (0:Int) else 4)≠0)&&decide ((bif servedB (hB ws ps) then (0:Int) else 4)≠4)))||(true != (decide ((bif servedB (hB ws ps) then (0:Int) else 4)=0)==servedB (hB ws ps))))=false:=by
   cases servedB (hB ws ps)<;>rfl
  rw [hcond]
  have hself:∀ x:Bool,(true != (x==x))=false:=fun x=>by cases x<;>rfl
  simp only [cond_false,bsm,hself,d1,d2]
  rw [e17,bsm]
  simp only [hw0,hwn,hself]
  simp only [ne_eq,not_true_eq_false,decide_false,Bool.or_false,cond_false]
  have step:∀ v:Int,0≤v→v<2→g4_33 (pB ws ps) w v ()=some (.next ()):=fun v v0 v2=>by
   unfold g4_33
   have hwb:0≤w∧w≤60:=by rcases hw with ⟨_,h2⟩ | ⟨h1,h2,_⟩<;>omega
   rw [wr_in (show -9223372036854775808≤w - v by omega) (by omega)]
   by_cases hc:(w - v<1)∨16<w
   ·have:(decide (w - v<1)||decide (16<w))=true:=by rw [Bool.or_eq_true,decide_eq_true_eq,decide_eq_true_eq];exact hc
    rw [this];rfl
   ·have:(decide (w - v<1)||decide (16<w))=false:=by
     cases hx:(decide (w - v<1)||decide (16<w)) with
     | false=>rfl
     | true=>rw [Bool.or_eq_true,decide_eq_true_eq,decide_eq_true_eq] at hx;exact absurd hx hc
    rw [this,cond_false,bsm,lQ]
    by_cases h3:(ws.length:Int)=3
    ·rw [decide_eq_true h3];rfl
    ·rw [decide_eq_false h3]
     simp only [cond_false]
     rw [Go.Proofs.YthjogmcdfokihaaDoor.appL_ok (by simp only [List.nil_append];rw [lQ];omega),bsm,List.nil_append,Go.Proofs.YthjogmcdfokihaaDoor.appL_ok (by rw [List.length_append,lQ];simp only [List.length_cons,List.length_nil];omega),bsm]
     have eb:PlankBook.mk ((pB ws ps).Planks++[PlankWood.mk (w - v) []]) (pB ws ps).Parts=pB (ws++[w - v]) ps:=by
      unfold pB;simp
     have S2:Sml (ws++[w - v]) ps:=⟨by simp only [List.length_append,List.length_cons,List.length_nil];omega,S.k4,fun x hx=>by
      rcases List.mem_append.1 hx with hx | hx
      ·exact S.w x hx
      ·rw [List.mem_singleton] at hx;subst hx;omega,S.p⟩
     obtain ⟨l2,e2,_⟩:=q8_few S2 he (by simp)
     rw [eb,e2,bsm]
     simp only
     rcases hw with ⟨_,h2⟩ | ⟨h1,h2,_,h4,h5⟩
     ·exact absurd (.inl (by omega)) hc
     ·by_cases hv:v=0
      ·subst hv
       rw [Int.sub_zero,h4];rfl
      ·rw [h5 (w - v) (by omega) (by omega),decide_eq_false hv];rfl
  rw [show ((2:Int) - 0).toNat=2 from rfl,forC,step 0 (by decide) (by decide),bsm]
  simp only
  rw [forC,step (0+1) (by decide) (by decide),bsm]
  simp only [forC,bindC,combed_ok,bsm]
end Go.Proofs.YthjogmcdfokihaaDoor
