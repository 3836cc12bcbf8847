/- Plain laws. Conditions: none. -/
import Derived.Test.YthcpnbeikdhlkaaDoorAr
set_option linter.unusedVariables false
set_option linter.unusedSimpArgs false
namespace Go.Proofs.YthcpnbeikdhlkaaDoor
open Go.Abs Go.Proofs.Tt
theorem cs {α:Type} (c:Bool) (a b:α):(bif c then some a else some b)=some (bif c then a else b):=by cases c<;>rfl
theorem bsm {α β:Type} (a:α) (f:α→Option β):(some a).bind f=f a:=rfl
theorem eachS_all {α:Type} {f:Int→α→Bool→Option Bool} {p:α→Bool} (h:∀ i x s,f i x s=some (s&&p x)):∀ (xs:List α) (i:Int) (s:Bool),eachS f xs i s=some (s&&xs.all p)
 | [],i,s=>by simp [eachS]
 | x::xs,i,s=>by rw [eachS,h,bsm,eachS_all h xs];simp [Bool.and_assoc]
def rg (n a b:Int):Bool:=decide (a≤n)&&decide (n≤b)
theorem while_all {α:Type} {f:Bool×Int→Option (Ctl (Bool×Int) Bool)} {p:α→Bool} {xs:List α} (hl:xs.length<900)
  (h0:∀ i,f (false,i)=some (.brk false)) (h1:f (true,(xs.length:Int))=some (.brk true))
  (h:∀ (i:Nat) x,xs[i]?=some x→f (true,(i:Int))=some (.next (p x,((i+1:Nat):Int)))) :
  ∀ (n i:Nat),i+n=xs.length→∀ k,n+2≤k→whileC f k (true,(i:Int))=some ((xs.drop i).all p)
 | 0,i,hi,k,hk=>by
  obtain ⟨k,rfl⟩:∃ k',k=k'+1:=⟨k - 1,by omega⟩
  have:i=xs.length:=by omega
  subst this
  rw [whileC,h1];simp
 | n+1,i,hi,k,hk=>by
  obtain ⟨k,rfl⟩:∃ k',k=k'+1:=⟨k - 1,by omega⟩
  have hlt:i<xs.length:=by omega
  rw [whileC,h i _ (List.getElem?_eq_getElem hlt),bsm,List.drop_eq_getElem_cons hlt,List.all_cons]
  cases hp:p xs[i] with
  | false=>
   obtain ⟨k,rfl⟩:∃ k',k=k'+1:=⟨k - 1,by omega⟩
   simp only;rw [whileC,h0];rfl
  | true=>simp only;rw [while_all hl h0 h1 h n (i+1) (by omega) k (by omega)];simp
theorem wr_nat {i:Nat} (h:i<1000):wr ((i:Int)+1)=((i+1:Nat):Int):=by rw [wr_in (by omega) (by omega)];simp
theorem ixL_nat {α:Type} (xs:List α) (i:Nat):ixL xs (i:Int)=xs[i]?:=by
 unfold ixL
 have:decide (0≤(i:Int))=true:=by simp
 rw [this];simp
theorem rg_iff {n a c:Int}:rg n a c=true↔a≤n∧n≤c:=by simp [rg]
theorem must_t {x:Bool} (h:x=true):must x=some ():=by subst h;rfl
def firstI (p:Int→Bool):Nat→Int→Option Int
 | 0,_=>none
 | n+1,i=>bif p i then some i else firstI p n (i+1)
theorem forC_first {S R:Type} {f:Int→S→Option (Ctl S R)} (I:S→Prop) (p:Int→Bool) (r:Int→R):∀ (n:Nat) (i:Int) (s:S),I s →
  (∀ j s,i≤j→j<i+n→I s→∃ s',I s'∧f j s=some (bif p j then .brk (r j) else .next s')) →
  ∃ s',I s'∧forC f n i s=some (match firstI p n i with | some j=>.brk (r j) | none=>.next s')
 | 0,i,s,hs,h=>⟨s,hs,rfl⟩
 | n+1,i,s,hs,h=>by
  obtain ⟨s1,h1,e1⟩:=h i s (by omega) (by omega) hs
  rw [forC,e1,bsm,firstI]
  cases p i with
  | true=>exact ⟨s1,h1,rfl⟩
  | false=>exact forC_first I p r n (i+1) s1 h1 (fun j s k1 k2=>h j s (by omega) (by omega))
theorem forC_firstU {R:Type} {f:Int→Unit→Option (Ctl Unit R)} (p:Int→Bool) (r:Int→R) (n:Nat) (i:Int) (h:∀ j,i≤j→j<i+n→f j ()=some (bif p j then .brk (r j) else .next ())) :
  forC f n i ()=some (match firstI p n i with | some j=>.brk (r j) | none=>.next ()):=by
 obtain ⟨s,_,e⟩:=forC_first (fun _=>True) p r n i () trivial (fun j s h1 h2 _=>⟨(),trivial,h j h1 h2⟩)
 exact e
theorem roomB_ok {n b:Nat} (h:n*b≤140737488355328):roomB n b=true:=Nat.ble_eq_true_of_le h
theorem appL_ok {α:Type} {sz:Nat} {l m:List α} (h:(l++m).length*sz≤140737488355328):appL sz l m=some (l++m):=by
 unfold appL
 rw [roomB_ok h];rfl
theorem slcL_all {α:Type} (l:List α):slcL l 0 (l.length:Int)=some l:=by
 unfold slcL
 have:(decide ((0:Int)≤0)&&(decide ((0:Int)≤(l.length:Int))&&decide ((l.length:Int)≤(l.length:Int))))=true:=by simp
 rw [this];simp
theorem forS_inv {S:Type} {f:Int→S→Option S} (I:Int→S→Prop):∀ (n:Nat) (i:Int) (s:S),I i s→(∀ j s,i≤j→j<i+n→I j s→∃ s',f j s=some s'∧I (j+1) s')→∃ s',forS f n i s=some s'∧I (i+n) s'
 | 0,i,s,hs,h=>⟨s,rfl,by simpa using hs⟩
 | n+1,i,s,hs,h=>by
  obtain ⟨s1,e1,h1⟩:=h i s (by omega) (by omega) hs
  obtain ⟨s2,e2,h2⟩:=forS_inv I n (i+1) s1 h1 (fun j s k1 k2=>h j s (by omega) (by omega))
  refine ⟨s2,by rw [forS,e1,bsm,e2],?_⟩
  rw [show i+((n+1:Nat):Int)=i+1+(n:Int) by omega]
  exact h2
theorem ixN_nat {n i:Nat} (h:i<n):ixN n (i:Int)=some i:=by
 unfold ixN
 have:(decide (0≤(i:Int))&&Nat.blt (i:Int).toNat n)=true:=by simp [h,Nat.blt_eq]
 rw [this];simp
theorem mfd_append {K W:Type} (q:K→K→Bool) (k k':K) (w:W):∀ (m:List (K×W)) (i:Nat),(mfd q k (m++[(k',w)]) i).map (·.2)=match (mfd q k m i).map (·.2) with
  | some v=>some v
  | none=>bif q k k' then some w else none
 | [],i=>by
  simp only [List.nil_append,mfd]
  cases q k k'<;>rfl
 | p::m,i=>by
  simp only [List.cons_append,mfd]
  cases q k p.1 with
  | true=>rfl
  | false=>simp only [cond_false];exact mfd_append q k k' w m (i+1)
theorem mget_append {K W:Type} (q:K→K→Bool) (m:List (K×W)) (k k':K) (w:W):mget q (m++[(k',w)]) k=match mget q m k with
  | some v=>some v
  | none=>bif q k k' then some w else none:=mfd_append q k k' w m 0
end Go.Proofs.YthcpnbeikdhlkaaDoor
namespace Go.Proofs.YthcpnbeikdhlkaaDoor
open Go.Abs Go.Proofs.Tt
def okSpan (s:Span) (a c w:Int):Bool:=decide (a≤s.Low)&&decide (s.Low≤s.High)&&decide (s.High≤c)&&decide (wr (s.High - s.Low)≤w)
def okHank (x:HairHank):Bool:=okSpan x.Weight 1 60 4&&okSpan x.Shade 0 20 2
def okHorse (x:HairHorse):Bool:=rg x.Mane 1 30&&rg x.Tail 1 30&&rg x.Shade 0 25
def okH (b:HairBook):Bool:=decide ((b.Hanks.length:Int)≤4)&&decide ((b.Horses.length:Int)≤3)&&rg b.Dark 0 4&&rg b.Near 0 3&&rg b.Match 0 3&&b.Hanks.all okHank&&b.Horses.all okHorse
theorem p57 (n a c:Int):g31 n a c=some (rg n a c):=rfl
theorem p63 (s:Span) (a c w:Int):g55 s a c w=some (okSpan s a c w):=rfl
theorem p17_15 (i:Int) (x:HairHank) (s:Bool):g25_15 i x s=some (s&&okHank x):=by
 simp only [g25_15,p63,bsm,cs,okHank,Bool.cond_false_right,Bool.and_assoc]
theorem p17_31 (i:Int) (x:HairHorse) (s:Bool):g25_31 i x s=some (s&&okHorse x):=by
 simp only [g25_31,p57,bsm,cs,okHorse,Bool.cond_false_right,Bool.and_assoc]
theorem p17 (b:HairBook):g25 b=some (bif okH b then 0 else 60):=by
 unfold g25
 simp only [p57,bsm,cs,Bool.cond_false_right,eachS_all p17_15,eachS_all p17_31]
 have:∀ x:Bool,(bif !x then (60:Int) else 0)=bif x then 0 else 60:=by intro x;cases x<;>rfl
 rw [this]
 simp only [okH,Bool.and_assoc]
structure HankOk (x:HairHank):Prop where
 w:1≤x.Weight.Low∧x.Weight.Low≤x.Weight.High∧x.Weight.High≤60
 s:0≤x.Shade.Low∧x.Shade.Low≤x.Shade.High∧x.Shade.High≤20
structure OkH (b:HairBook):Prop where
 l4:b.Hanks.length≤5
 l3:b.Horses.length≤3
 dark:0≤b.Dark∧b.Dark≤4
 near:0≤b.Near∧b.Near≤3
 mat:0≤b.Match∧b.Match≤3
 hanks:∀ x,x∈b.Hanks→HankOk x
 horses:∀ x,x∈b.Horses→(1≤x.Mane∧x.Mane≤30)∧(1≤x.Tail∧x.Tail≤30)∧0≤x.Shade∧x.Shade≤25
theorem okH_of {b:HairBook} (h:okH b=true):OkH b:=by
 simp only [okH,Bool.and_eq_true,rg_iff,decide_eq_true_eq,List.all_eq_true] at h
 obtain ⟨⟨⟨⟨⟨⟨h1,h2⟩,h3⟩,h4⟩,h5⟩,h6⟩,h7⟩:=h
 refine ⟨by omega,by omega,h3,h4,h5,fun x hx=>?_,fun x hx=>?_⟩
 ·have:=h6 x hx
  simp only [okHank,okSpan,Bool.and_eq_true,decide_eq_true_eq] at this
  exact ⟨by omega,by omega⟩
 ·have:=h7 x hx
  simp only [okHorse,Bool.and_eq_true,rg_iff] at this
  omega
theorem okH_l4 {b:HairBook} (h:okH b=true):b.Hanks.length≤4:=by
 simp only [okH,Bool.and_eq_true,decide_eq_true_eq] at h
 omega
theorem q84_iff (x y:Hair_dye):q108 x y=true↔x=y:=by
 cases x;cases y
 simp [q108]
def shOf (b:HairBook) (h n:Int):Span:=match b.Hanks[h.toNat]? with
 | some x=>⟨x.Shade.Low+n,x.Shade.High+n⟩
 | none=>⟨0,0⟩
def ShK (b:HairBook) (k j:Int) (m:List (Hair_dye×Span)):Prop:=∀ h n,mget q108 m ⟨h,n⟩=bif (decide (0≤h)&&decide (h<k)&&decide (0≤n)&&decide (n≤b.Dark))||(decide (h=k)&&decide (0≤n)&&decide (n<j)) then some (shOf b h n) else none
theorem eachS_inv {α S:Type} {f:Int→α→S→Option S} (I:Nat→S→Prop):∀ (xs:List α) (i:Nat) (s:S),I i s→(∀ j x s,i≤j→xs[j - i]?=some x→I j s→∃ s',f (j:Int) x s=some s'∧I (j+1) s')→∃ s',eachS f xs (i:Int) s=some s'∧I (i+xs.length) s'
 | [],i,s,hs,h=>⟨s,rfl,by simpa using hs⟩
 | x::xs,i,s,hs,h=>by
  obtain ⟨s1,e1,h1⟩:=h i x s (Nat.le_refl _) (by simp) hs
  obtain ⟨s2,e2,h2⟩:=eachS_inv I xs (i+1) s1 h1 (fun j y s hj hy hI=>h j y s (by omega) (by
   have:j - i=(j - (i+1))+1:=by omega
   rw [this,List.getElem?_cons_succ];exact hy) hI)
  refine ⟨s2,?_,?_⟩
  ·rw [eachS,e1,bsm,show (i:Int)+1=((i+1:Nat):Int) by omega,e2]
  ·rw [List.length_cons,show i+(xs.length+1)=i+1+xs.length by omega];exact h2
theorem p80_8 {b:HairBook} (ok:OkH b) {k:Nat} {x:HairHank} (hx:b.Hanks[k]?=some x) {j:Int} (h0:0≤j) (h1:j≤b.Dark) {m:List (Hair_dye×Span)} (hm:ShK b k j m):∃ m',g33_8 (k:Int) x j m=some m'∧ShK b k (j+1) m':=by
 have hd:=ok.dark
 have hs:=(ok.hanks x (List.mem_of_getElem? hx)).s
 have hnone:mget q108 m ⟨(k:Int),j⟩=none:=by
  rw [hm]
  have:((decide (0≤(k:Int))&&decide ((k:Int)<(k:Int))&&decide (0≤j)&&decide (j≤b.Dark))||(decide ((k:Int)=(k:Int))&&decide (0≤j)&&decide (j<j)))=false:=by simp
  rw [this];rfl
 have hsh:shOf b (k:Int) j=⟨x.Shade.Low+j,x.Shade.High+j⟩:=by
  unfold shOf
  rw [Int.toNat_natCast,hx]
 refine ⟨m++[(⟨(k:Int),j⟩,⟨x.Shade.Low+j,x.Shade.High+j⟩)],?_,fun h n=>?_⟩
 ·unfold g33_8 mput
  rw [hnone,wr_in (by omega) (by omega),wr_in (by omega) (by omega)]
  rfl
 ·rw [mget_append]
  by_cases he:h=(k:Int)∧n=j
  ·obtain ⟨rfl,rfl⟩:=he
   rw [hnone]
   have hq:q108 ⟨(k:Int),n⟩ ⟨(k:Int),n⟩=true:=(q84_iff _ _).2 rfl
   have ht:((decide (0≤(k:Int))&&decide ((k:Int)<(k:Int))&&decide (0≤n)&&decide (n≤b.Dark))||(decide ((k:Int)=(k:Int))&&decide (0≤n)&&decide (n<n+1)))=true:=by
    simp;omega
   rw [ht,hsh]
   simp only [hq,cond_true]
  ·have hq:q108 ⟨h,n⟩ ⟨(k:Int),j⟩=false:=by
    cases hc:q108 ⟨h,n⟩ ⟨(k:Int),j⟩ with
    | false=>rfl
    | true=>
     have:=(q84_iff _ _).1 hc
     injection this with e1 e2
     exact absurd ⟨e1,e2⟩ he
   rw [hm,hq]
   have:(decide (h=(k:Int))&&decide (0≤n)&&decide (n<j))=(decide (h=(k:Int))&&decide (0≤n)&&decide (n<j+1)):=by
    rw [Bool.eq_iff_iff]
    simp only [Bool.and_eq_true,decide_eq_true_eq]
    constructor
    ·rintro ⟨⟨a1,a2⟩,a3⟩;exact ⟨⟨a1,a2⟩,by omega⟩
    ·rintro ⟨⟨a1,a2⟩,a3⟩
     refine ⟨⟨a1,a2⟩,?_⟩
     by_cases e:n=j
     ·exact absurd ⟨a1,e⟩ he
     ·omega
   rw [this]
   cases (decide (0≤h)&&decide (h<(k:Int))&&decide (0≤n)&&decide (n≤b.Dark))||(decide (h=(k:Int))&&decide (0≤n)&&decide (n<j+1))<;>rfl
def ShOk (b:HairBook) (m:List (Hair_dye×Span)):Prop:=∀ (h n:Int),0≤h→h<b.Hanks.length→0≤n→n≤b.Dark→mget q108 m ⟨h,n⟩=some (shOf b h n)
theorem p80 {b:HairBook} (ok:OkH b):∃ m,g33 b=some (b,m)∧ShOk b m:=by
 have hd:=ok.dark
 have e:wr (b.Dark+1)=b.Dark+1:=wr_in (by omega) (by omega)
 obtain ⟨m,em,hm⟩:=eachS_inv (f:=g33_3 b) (fun k m=>ShK b (k:Int) 0 m) b.Hanks 0 [] (fun h n=>by
  have:((decide (0≤h)&&decide (h<((0:Nat):Int))&&decide (0≤n)&&decide (n≤b.Dark))||(decide (h=((0:Nat):Int))&&decide (0≤n)&&decide (n<0)))=false:=by
   rw [Bool.eq_false_iff]
   intro hc
   simp only [Bool.or_eq_true,Bool.and_eq_true,decide_eq_true_eq] at hc
   omega
  rw [this];rfl) (fun k x m hk hx hm=>by
  rw [Nat.sub_zero] at hx
  obtain ⟨m',e',h'⟩:=forS_inv (f:=g33_8 (k:Int) x) (fun j m=>ShK b (k:Int) j m) (b.Dark+1 - 0).toNat 0 m hm (fun j s j1 j2 hs=>p80_8 ok hx j1 (by omega) hs)
  refine ⟨m',by unfold g33_3;rw [e,e',bsm],fun h n=>?_⟩
  rw [h']
  congr 1
  rw [Bool.eq_iff_iff]
  simp only [Bool.or_eq_true,Bool.and_eq_true,decide_eq_true_eq]
  omega)
 refine ⟨m,?_,fun h n h1 h2 h3 h4=>?_⟩
 ·unfold g33
  rw [show ((0:Nat):Int)=0 from rfl] at em
  rw [em,bsm]
 ·rw [hm]
  have:((decide (0≤h)&&decide (h<((0+b.Hanks.length:Nat):Int))&&decide (0≤n)&&decide (n≤b.Dark))||(decide (h=((0+b.Hanks.length:Nat):Int))&&decide (0≤n)&&decide (n<0)))=true:=by
   simp only [Bool.or_eq_true,Bool.and_eq_true,decide_eq_true_eq]
   omega
  rw [this];rfl
def nearB (b:HairBook) (want:Int) (s:Span):Bool:=decide (s.High - want≤b.Near)&&decide (want - s.Low≤b.Near)
def mB (b:HairBook) (want mane tail m t:Int):Bool:=nearB b want (shOf b mane m)&&nearB b want (shOf b tail t) &&
 bif decide (mane=tail) then decide (-b.Match≤m - t)&&decide (m - t≤b.Match) else decide ((shOf b mane m).High - (shOf b tail t).Low≤b.Match)&&decide ((shOf b tail t).High - (shOf b mane m).Low≤b.Match)
theorem sh_bd {b:HairBook} (ok:OkH b) {h n:Int} (h1:0≤h) (h2:h<b.Hanks.length) (h3:0≤n) (h4:n≤b.Dark):0≤(shOf b h n).Low∧(shOf b h n).Low≤(shOf b h n).High∧(shOf b h n).High≤24:=by
 have hd:=ok.dark
 have hlt:h.toNat<b.Hanks.length:=by omega
 have hs:=(ok.hanks _ (List.getElem_mem hlt)).s
 unfold shOf
 rw [List.getElem?_eq_getElem hlt]
 simp only
 omega
theorem p100 {b:HairBook} (ok:OkH b) {mf:List (Hair_dye×Span)} (hmf:ShOk b mf) {horse:Int} {p:HairHorse} (hp:ixL b.Horses horse=some p) (hw:0≤p.Shade∧p.Shade≤25) {mane tail m t:Int} (a1:0≤mane) (a2:mane<b.Hanks.length) (b1:0≤tail) (b2:tail<b.Hanks.length)
  (m1:0≤m) (m2:m≤b.Dark) (t1:0≤t) (t2:t≤b.Dark):g72 b mf horse ⟨mane,m⟩ ⟨tail,t⟩=some (mB b p.Shade mane tail m t):=by
 have hd:=ok.dark
 have hn:=ok.near
 have hma:=ok.mat
 have hs:=sh_bd ok a1 a2 m1 m2
 have ht:=sh_bd ok b1 b2 t1 t2
 unfold g72
 rw [hp,bsm,hmf mane m a1 a2 m1 m2,hmf tail t b1 b2 t1 t2]
 simp only [Option.getD_some]
 generalize hS:shOf b mane m=s at hs
 generalize hT:shOf b tail t=u at ht
 have g3:∀ a x y z,g75 a [x,y,z]=some (max (max (max a x) y) z):=fun _ _ _ _=>rfl
 have g1:∀ a x,g75 a [x]=some (max a x):=fun _ _=>rfl
 rw [wr_in (show -9223372036854775808≤s.High - p.Shade by omega) (by omega),wr_in (show -9223372036854775808≤p.Shade - s.Low by omega) (by omega),wr_in (show -9223372036854775808≤u.High - p.Shade by omega) (by omega),wr_in (show -9223372036854775808≤p.Shade - u.Low by omega) (by omega),g3,bsm,
  wr_in (show -9223372036854775808≤m - t by omega) (by omega),wr_in (show -9223372036854775808≤-b.Match by omega) (by omega),wr_in (show -9223372036854775808≤s.High - u.Low by omega) (by omega),wr_in (show -9223372036854775808≤u.High - s.Low by omega) (by omega),g1,p57]
 simp only [bsm,cs]
 unfold mB nearB
 rw [hS,hT]
 by_cases hnear:b.Near<max (max (max (s.High - p.Shade) (p.Shade - s.Low)) (u.High - p.Shade)) (p.Shade - u.Low)
 ·rw [decide_eq_true hnear,cond_true]
  have:(decide (s.High - p.Shade≤b.Near)&&decide (p.Shade - s.Low≤b.Near)&&(decide (u.High - p.Shade≤b.Near)&&decide (p.Shade - u.Low≤b.Near)))=false:=by
   rw [Bool.eq_false_iff]
   intro hc
   simp only [Bool.and_eq_true,decide_eq_true_eq] at hc
   omega
  rw [this];rfl
 ·rw [decide_eq_false hnear,cond_false]
  have:(decide (s.High - p.Shade≤b.Near)&&decide (p.Shade - s.Low≤b.Near)&&(decide (u.High - p.Shade≤b.Near)&&decide (p.Shade - u.Low≤b.Near)))=true:=by
   simp only [Bool.and_eq_true,decide_eq_true_eq]
   omega
  rw [this,Bool.true_and]
  by_cases he:mane=tail
  ·rw [decide_eq_true he]
   simp only [cond_true]
   by_cases hmt:m=t
   ·subst he;subst hmt
    have e1:(false != ((mane==mane)&&((m==m)&&true)))=true:=by simp
    have e2:(decide (-b.Match≤m - m)&&decide (m - m≤b.Match))=true:=by
     simp only [Bool.and_eq_true,decide_eq_true_eq];omega
    rw [e1,e2];rfl
   ·have e1:(false != ((mane==tail)&&((m==t)&&true)))=false:=by
     have:(m==t)=false:=by simpa using hmt
     rw [this];simp
    rw [e1];rfl
  ·rw [decide_eq_false he]
   simp only [cond_false]
   congr 1
   rw [Bool.eq_iff_iff]
   simp only [Bool.and_eq_true,decide_eq_true_eq]
   omega
def dyesF (b:HairBook) (want mane tail:Int):Option (Int×Int):=(firstI (fun m=>(firstI (fun t=>mB b want mane tail m t) (b.Dark+1).toNat 0).isSome) (b.Dark+1).toNat 0).map fun m=>(m,(firstI (fun t=>mB b want mane tail m t) (b.Dark+1).toNat 0).getD 0)
theorem p59 {b:HairBook} (ok:OkH b) {mf:List (Hair_dye×Span)} (hmf:ShOk b mf) {horse:Int} {p:HairHorse} (hp:ixL b.Horses horse=some p) (hw:0≤p.Shade∧p.Shade≤25) {mane tail:Int} (a1:0≤mane) (a2:mane<b.Hanks.length) (b1:0≤tail) (b2:tail<b.Hanks.length) :
  g60 b mf horse mane tail=some (match dyesF b p.Shade mane tail with | some x=>(⟨mane,x.1⟩,⟨tail,x.2⟩,true) | none=>(⟨0,0⟩,⟨0,0⟩,false)):=by
 have hd:=ok.dark
 have e:wr (b.Dark+1)=b.Dark+1:=wr_in (by omega) (by omega)
 unfold g60
 rw [e,Int.sub_zero]
 have:=forC_firstU (f:=g60_2 b mf horse mane tail) (fun m=>(firstI (fun t=>mB b p.Shade mane tail m t) (b.Dark+1).toNat 0).isSome) (fun m=>((⟨mane,m⟩:Hair_dye),(⟨tail,(firstI (fun t=>mB b p.Shade mane tail m t) (b.Dark+1).toNat 0).getD 0⟩:Hair_dye),true)) (b.Dark+1).toNat 0 (fun m m1 m2=>by
  have:=forC_firstU (f:=g60_6 b mf horse mane tail m) (fun t=>mB b p.Shade mane tail m t) (fun t=>.brk ((⟨mane,m⟩:Hair_dye),(⟨tail,t⟩:Hair_dye),true)) (b.Dark+1).toNat 0 (fun t t1 t2=>by
   unfold g60_6
   rw [p100 ok hmf hp hw a1 a2 b1 b2 m1 (by omega) t1 (by omega),bsm,cs])
  unfold g60_2
  rw [e,Int.sub_zero,this]
  cases firstI (fun t=>mB b p.Shade mane tail m t) (b.Dark+1).toNat 0<;>rfl)
 rw [this]
 unfold dyesF
 cases firstI (fun m=>(firstI (fun t=>mB b p.Shade mane tail m t) (b.Dark+1).toNat 0).isSome) (b.Dark+1).toNat 0<;>rfl
end Go.Proofs.YthcpnbeikdhlkaaDoor
namespace Go.Proofs.YthcpnbeikdhlkaaDoor
open Go.Abs Go.Proofs.Tt
theorem p39 (n:Int) {many:Int} (h1:1≤many) (h2:many≤9223372036854775807):∃ r,g7 n many=some r∧0≤r∧r<many:=by
 have a1:=Int.tmod_lt_of_pos n (show 0<many by omega)
 have a2:=Int.lt_tmod_of_pos n (show 0<many by omega)
 unfold g7
 rw [decide_eq_false (by omega),cond_false,must_t (by simp;omega),bsm]
 by_cases h:n.tmod many<0
 ·rw [decide_eq_true h,cond_true,wr_in (by omega) (by omega)]
  exact ⟨_,rfl,by omega,by omega⟩
 ·rw [decide_eq_false h,cond_false]
  exact ⟨_,rfl,by omega,by omega⟩
end Go.Proofs.YthcpnbeikdhlkaaDoor
namespace Go.Proofs.YthcpnbeikdhlkaaDoor
open Go.Abs Go.Proofs.Tt
def partN (b:HairBook) (v:Nat):Int:=match b.Horses[v / 2]? with
 | some h=>bif decide (v % 2=0) then h.Mane else h.Tail
 | none=>0
def cutS (b:HairBook):List Int→Nat→Int→Int
 | [],_,_=>0
 | p::ps,v,k=>(bif decide (p=k) then partN b v else 0)+cutS b ps (v+1) k
theorem partN_bd {b:HairBook} (ok:OkH b) (v:Nat):0≤partN b v∧partN b v≤30:=by
 unfold partN
 cases hh:b.Horses[v / 2]? with
 | none=>simp
 | some h=>
  obtain ⟨h1,h2,_⟩:=ok.horses h (List.mem_of_getElem? hh)
  simp only
  cases decide (v % 2=0)<;>simp only [cond_true,cond_false]<;>omega
theorem cutS_bd {b:HairBook} (ok:OkH b) (k:Int):∀ (ps:List Int) (v:Nat),0≤cutS b ps v k∧cutS b ps v k≤30*ps.length
 | [],v=>by simp [cutS]
 | p::ps,v=>by
  have h1:=partN_bd ok v
  have h2:=cutS_bd ok k ps (v+1)
  rw [cutS,List.length_cons]
  cases decide (p=k)<;>simp only [cond_true,cond_false]<;>omega
def planB (b:HairBook) (plan:List Int):Bool:=decide ((plan.length:Int)=2*(b.Horses.length:Int))&&plan.all fun n=>rg n 0 ((b.Hanks.length:Int) - 1)
structure PlanOk (b:HairBook) (plan:List Int):Prop where
 len:plan.length=2*b.Horses.length
 rng:∀ n,n∈plan→0≤n∧n<b.Hanks.length
theorem plan_of {b:HairBook} {plan:List Int} (h:planB b plan=true):PlanOk b plan:=by
 simp only [planB,Bool.and_eq_true,decide_eq_true_eq,List.all_eq_true,rg_iff] at h
 exact ⟨by omega,fun n hn=>by have:=h.2 n hn;omega⟩
theorem tdiv_nat (v:Nat):(v:Int).tdiv 2=((v / 2:Nat):Int):=rfl
theorem tmod_nat (v:Nat):(v:Int).tmod 2=((v % 2:Nat):Int):=rfl
theorem aset_get (w:Nat→Int) (j k:Nat) (x:Int):aset w j x k=if k=j then x else w k:=by
 unfold aset
 by_cases h:k=j
 ·subst h;simp
 ·rw [if_neg h]
  cases hb:Nat.beq k j with
  | true=>exact absurd (Nat.eq_of_beq_eq_true hb) h
  | false=>rfl
def fitK (b:HairBook) (plan:List Int):Bool:=b.Hanks.zipIdx.all fun y=>!decide (y.1.Weight.Low<cutS b plan 0 (y.2:Int))
def dyeK (b:HairBook) (plan:List Int):Bool:=b.Horses.zipIdx.all fun y=>(dyesF b y.1.Shade ((plan[2*y.2]?).getD 0) ((plan[2*y.2+1]?).getD 0)).isSome
def worksB (b:HairBook) (plan:List Int):Bool:=fitK b plan&&dyeK b plan
end Go.Proofs.YthcpnbeikdhlkaaDoor
namespace Go.Proofs.YthcpnbeikdhlkaaDoor
open Go Go.Abs Go.Proofs.Tt
theorem cutS_snoc (b:HairBook) (k p:Int):∀ (ps:List Int) (v:Nat),cutS b (ps++[p]) v k=cutS b ps v k+bif decide (p=k) then partN b (v+ps.length) else 0
 | [],v=>by simp [cutS]
 | q::ps,v=>by
  rw [List.cons_append,cutS,cutS_snoc b k p ps (v+1),cutS,List.length_cons,show v+1+ps.length=v+(ps.length+1) by omega]
  omega
end Go.Proofs.YthcpnbeikdhlkaaDoor
namespace Go.Proofs.YthcpnbeikdhlkaaDoor
open Go.Abs Go.Proofs.Tt
def runY {A S:Type} (c:A→S→Option (S×Bool)):List A→S→Option (S×Bool)
 | [],s=>some (s,true)
 | a::l,s=>(c a s).bind fun r=>bif r.2 then runY c l r.1 else some (r.1,false)
theorem runY_append {A S:Type} (c:A→S→Option (S×Bool)):∀ (l m:List A) (s:S),runY c (l++m) s=(runY c l s).bind fun r=>bif r.2 then runY c m r.1 else some (r.1,false)
 | [],m,s=>by simp [runY]
 | a::l,m,s=>by
  rw [List.cons_append,runY,runY]
  cases c a s with
  | none=>rfl
  | some r=>
   obtain ⟨s',go⟩:=r
   cases go with
   | false=>rfl
   | true=>exact runY_append c l m s'
theorem runY_stop {A S X:Type} {B:A→S→Option (Ctl S X)} (r:X) (l:List A) (s:S) (h:∀ a s,B a s=some (.brk r)):runY (fun a s=>rndC B a s) l (.next s)=some (match l with | []=>(.next s,true) | _::_=>(.brk r,false)):=by
 cases l with
 | nil=>rfl
 | cons a l=>
  rw [runY]
  simp only [rndC,h a s,bsm,isNext]
  rfl
def tr (K:Nat) (ok:List Int→Bool):Nat→List Int→List (List Int)
 | 0,p=>bif ok p then [p] else []
 | n+1,p=>bif ok p then (List.range' 0 K).flatMap fun (k:Nat)=>tr K ok n (p++[(k:Int)]) else []
def allp (K:Nat):Nat→List Int→List (List Int)
 | 0,p=>[p]
 | n+1,p=>(List.range' 0 K).flatMap fun (k:Nat)=>allp K n (p++[(k:Int)])
theorem mem_allp {K:Nat} {q:List Int}:∀ {n:Nat} {p:List Int},q∈allp K n p↔∃ l,q=p++l∧l.length=n∧∀ x,x∈l→0≤x∧x<K
 | 0,p=>by
  rw [allp,List.mem_singleton]
  constructor
  ·rintro rfl;exact ⟨[],by simp,rfl,by simp⟩
  ·rintro ⟨l,h1,h2,h3⟩
   rw [List.length_eq_zero_iff.1 h2] at h1;simpa using h1
 | n+1,p=>by
  rw [allp,List.mem_flatMap]
  constructor
  ·rintro ⟨k,hk,hq⟩
   rw [List.mem_range'_1] at hk
   obtain ⟨l,h1,h2,h3⟩:=mem_allp.1 hq
   refine ⟨(k:Int)::l,by rw [h1];simp,by simp [h2],fun x hx=>?_⟩
   rcases List.mem_cons.1 hx with rfl | hx
   ·omega
   ·exact h3 x hx
  ·rintro ⟨l,h1,h2,h3⟩
   cases l with
   | nil=>simp at h2
   | cons x l=>
    have hx:=h3 x (by simp)
    refine ⟨x.toNat,by rw [List.mem_range'_1];omega,mem_allp.2 ⟨l,?_,by simpa using h2,fun y hy=>h3 y (by simp [hy])⟩⟩
    rw [show ((x.toNat:Nat):Int)=x by omega,h1];simp
theorem allp_pre {K:Nat} {ok:List Int→Bool} (hok:∀ p k,ok (p++[k])=true→ok p=true) {q:List Int}:∀ {n:Nat} {p:List Int},q∈allp K n p→ok q=true→ok p=true
 | 0,p,h,hq=>by
  rw [allp,List.mem_singleton] at h
  rw [← h];exact hq
 | n+1,p,h,hq=>by
  rw [allp,List.mem_flatMap] at h
  obtain ⟨k,_,h⟩:=h
  exact hok _ _ (allp_pre hok h hq)
theorem tr_eq {K:Nat} {ok:List Int→Bool} (hok:∀ p k,ok (p++[k])=true→ok p=true):∀ (n:Nat) (p:List Int),tr K ok n p=(allp K n p).filter ok
 | 0,p=>by
  rw [tr,allp,List.filter_cons]
  cases ok p<;>rfl
 | n+1,p=>by
  rw [tr]
  cases hp:ok p with
  | true=>
   rw [cond_true,allp,List.filter_flatMap]
   congr 1
   funext k
   exact tr_eq hok n _
  | false=>
   rw [cond_false,Eq.comm,List.filter_eq_nil_iff]
   intro q hq hc
   have:=allp_pre hok hq hc
   rw [hp] at this;cases this
theorem eachC_run {α A S:Type} {f:Int→α→S→Option (Ctl S (Bool×S))} (c:A→S→Option (S×Bool)) (L:Nat→List A):∀ (xs:List α) (i:Nat) (s:S),(∀ (j:Nat) x s,i≤j→xs[j - i]?=some x→f (j:Int) x s=(runY c (L j) s).map fun r=>bif r.2 then .next r.1 else .brk (false,r.1)) →
  eachC f xs (i:Int) s=(runY c ((List.range' i xs.length).flatMap L) s).map fun r=>bif r.2 then .next r.1 else .brk (false,r.1)
 | [],i,s,h=>rfl
 | x::xs,i,s,h=>by
  rw [eachC,h i x s (Nat.le_refl _) (by simp),List.length_cons,List.range'_succ,List.flatMap_cons,runY_append]
  cases runY c (L i) s with
  | none=>rfl
  | some r=>
   obtain ⟨s',go⟩:=r
   cases go with
   | false=>rfl
   | true=>
    simp only [Option.map_some,bsm,cond_true]
    rw [show (i:Int)+1=((i+1:Nat):Int) by omega]
    exact eachC_run c L xs (i+1) s' (fun j y s hj hy=>h j y s (by omega) (by
     have:j - i=(j - (i+1))+1:=by omega
     rw [this,List.getElem?_cons_succ];exact hy))
def shH (b:HairBook) (i:Nat):Int:=match b.Horses[i]? with | some x=>x.Shade | none=>0
def dyeQ (b:HairBook) (p:List Int):Bool:=(List.range (p.length / 2)).all fun i=>(dyesF b (shH b i) ((p[2*i]?).getD 0) ((p[2*i+1]?).getD 0)).isSome
def fitP (b:HairBook) (by_:Span→Int) (p:List Int):Bool:=b.Hanks.zipIdx.all fun y=>!decide (by_ y.1.Weight<cutS b p 0 (y.2:Int))
def okP (b:HairBook) (by_:Span→Int) (p:List Int):Bool:=fitP b by_ p&&dyeQ b p
theorem fitP_iff {b:HairBook} {by_:Span→Int} {p:List Int}:fitP b by_ p=true↔∀ (k:Nat) x,b.Hanks[k]?=some x→cutS b p 0 (k:Int)≤by_ x.Weight:=by
 unfold fitP
 rw [List.all_eq_true]
 constructor
 ·intro h k x hx
  have:=h (x,k) (by
   rw [List.mem_iff_getElem?]
   exact ⟨k,by rw [List.getElem?_zipIdx,hx];simp⟩)
  simpa using this
 ·intro h y hy
  rw [List.mem_iff_getElem?] at hy
  obtain ⟨k,hk⟩:=hy
  rw [List.getElem?_zipIdx] at hk
  cases hx:b.Hanks[k]? with
  | none=>rw [hx] at hk;cases hk
  | some x=>
   rw [hx] at hk
   simp only [Option.map_some,Option.some.injEq,Nat.zero_add] at hk
   subst hk
   have:=h k x hx
   simpa using this
theorem all_congr {α:Type} {f g:α→Bool}:∀ {l:List α},(∀ x,x∈l→f x=g x)→l.all f=l.all g
 | [],h=>rfl
 | x::l,h=>by rw [List.all_cons,List.all_cons,h x (by simp),all_congr (fun y hy=>h y (by simp [hy]))]
theorem dyeQ_snoc (b:HairBook) (p:List Int) (k:Int):dyeQ b (p++[k])=(dyeQ b p&&bif decide (p.length % 2=1) then (dyesF b (shH b (p.length / 2)) ((p[p.length - 1]?).getD 0) k).isSome else true):=by
 have hc:∀ i,i<p.length / 2→(dyesF b (shH b i) (((p++[k])[2*i]?).getD 0) (((p++[k])[2*i+1]?).getD 0)).isSome=(dyesF b (shH b i) ((p[2*i]?).getD 0) ((p[2*i+1]?).getD 0)).isSome:=fun i hi=>by
  rw [List.getElem?_append_left (by omega),List.getElem?_append_left (by omega)]
 unfold dyeQ
 rw [List.length_append,List.length_singleton]
 by_cases h:p.length % 2=1
 ·rw [decide_eq_true h,cond_true,show (p.length+1) / 2=p.length / 2+1 by omega,List.range_succ,List.all_append,all_congr (fun i hi=>hc i (List.mem_range.1 hi))]
  congr 1
  rw [List.all_cons,List.all_nil,Bool.and_true,List.getElem?_append_left (by omega),List.getElem?_append_right (by omega),show 2*(p.length / 2)+1 - p.length=0 by omega,show 2*(p.length / 2)=p.length - 1 by omega]
  rfl
 ·rw [decide_eq_false h,cond_false,Bool.and_true,show (p.length+1) / 2=p.length / 2 by omega,all_congr (fun i hi=>hc i (List.mem_range.1 hi))]
theorem fitP_snoc {b:HairBook} (ok:OkH b) {by_:Span→Int} {p:List Int} (hp:fitP b by_ p=true) {k:Nat} {x:HairHank} (hx:b.Hanks[k]?=some x):fitP b by_ (p++[(k:Int)])=!decide (by_ x.Weight<cutS b p 0 (k:Int)+partN b p.length):=by
 rw [fitP_iff] at hp
 rw [Bool.eq_iff_iff,fitP_iff]
 simp only [Bool.not_eq_true',decide_eq_false_iff_not,Int.not_lt]
 constructor
 ·intro h
  have:=h k x hx
  rw [cutS_snoc,decide_eq_true rfl,cond_true,Nat.zero_add] at this
  exact this
 ·intro h j y hy
  rw [cutS_snoc,Nat.zero_add]
  by_cases e:(k:Int)=(j:Int)
  ·have:j=k:=by omega
   subst this
   rw [decide_eq_true rfl,cond_true]
   rw [hx] at hy;cases hy;exact h
  ·rw [decide_eq_false e,cond_false]
   have:=hp j y hy
   omega
theorem okP_snoc {b:HairBook} (ok:OkH b) {by_:Span→Int} {p:List Int} (hp:okP b by_ p=true) {k:Nat} {x:HairHank} (hx:b.Hanks[k]?=some x):okP b by_ (p++[(k:Int)])=(!decide (by_ x.Weight<cutS b p 0 (k:Int)+partN b p.length)&&bif decide (p.length % 2=1) then (dyesF b (shH b (p.length / 2)) ((p[p.length - 1]?).getD 0) (k:Int)).isSome else true):=by
 unfold okP at hp ⊢
 rw [Bool.and_eq_true] at hp
 rw [fitP_snoc ok hp.1 hx,dyeQ_snoc,hp.2,Bool.true_and]
theorem fitP_pre {b:HairBook} (ok:OkH b) {by_:Span→Int} {p:List Int} {k:Int} (h:fitP b by_ (p++[k])=true):fitP b by_ p=true:=by
 rw [fitP_iff] at h ⊢
 intro j x hx
 have:=h j x hx
 rw [cutS_snoc,Nat.zero_add] at this
 have hb:=partN_bd ok p.length
 cases hd:decide (k=(j:Int))<;>rw [hd] at this<;>simp only [cond_true,cond_false] at this<;>omega
theorem okP_pre {b:HairBook} (ok:OkH b) {by_:Span→Int} (p:List Int) (k:Int) (h:okP b by_ (p++[k])=true):okP b by_ p=true:=by
 unfold okP at h ⊢
 rw [Bool.and_eq_true] at h ⊢
 refine ⟨fitP_pre ok h.1,?_⟩
 rw [dyeQ_snoc,Bool.and_eq_true] at h
 exact h.2.1
def cutF (b:HairBook) (p:List Int):Nat→Int:=fun k=>cutS b p 0 (k:Int)
theorem p112 {S:Type} (c:List Int→(Nat→Int)→S→Option (S×Bool)) {b:HairBook} (ok:OkH b) {mf:List (Hair_dye×Span)} (hmf:ShOk b mf):∀ (n fuel:Nat) (p:List Int) (s:S),p.length+n=2*b.Horses.length→n+1≤fuel→(∀ x,x∈p→0≤x∧x<b.Hanks.length)→okP b (·.Low) p=true →
  g57 c fuel p (cutF b p) b mf b mf s=(runY (fun q s=>c q (cutF b q) s) (tr b.Hanks.length (okP b (·.Low)) n p) s).map fun r=>(r.2,r.1)
 | 0,fuel,p,s,hl,hf,hr,ho=>by
  have h3:=ok.l3
  obtain ⟨fuel,rfl⟩:∃ j,fuel=j+1:=⟨fuel - 1,by omega⟩
  rw [g57,wr_in (by omega) (by omega),decide_eq_true (show (p.length:Int)=2*(b.Horses.length:Int) by omega),cond_true,tr,ho,cond_true,runY]
  cases c p (cutF b p) s with
  | none=>rfl
  | some r=>obtain ⟨s',go⟩:=r;cases go<;>rfl
 | n+1,fuel,p,s,hl,hf,hr,ho=>by
  have h3:=ok.l3
  have h4:=ok.l4
  obtain ⟨fuel,rfl⟩:∃ j,fuel=j+1:=⟨fuel - 1,by omega⟩
  have hlt:p.length / 2<b.Horses.length:=by omega
  have hpn:=partN_bd ok p.length
  have hH:=ok.horses _ (List.getElem_mem hlt)
  rw [g57,wr_in (by omega) (by omega),decide_eq_false (show ¬ (p.length:Int)=2*(b.Horses.length:Int) by omega),cond_false,tdiv_nat,tmod_nat,ixN_nat (show p.length % 2<2 by omega)]
  rw [wr_in (show -9223372036854775808≤((p.length / 2:Nat):Int) by omega) (by omega)]
  rw [ixL_nat,List.getElem?_eq_getElem hlt]
  have key:∀ {X:Option Int} {F:Int→Option (Bool×S)} {R:Option (Bool×S)},X=some (partN b p.length)→F (partN b p.length)=R→X.bind F=R:=by
   intro X F R h1 h2;rw [h1];exact h2
  refine key ?_ ?_
  ·unfold partN
   rw [List.getElem?_eq_getElem hlt]
   have hm:p.length % 2=0∨p.length % 2=1:=by omega
   rcases hm with hm | hm<;>rw [hm]<;>rfl
  have hstep:∀ (j:Nat) (x:HairHank) (s:S),0≤j→b.Hanks[j - 0]?=some x→g57_16 (g57 c fuel) p (cutF b p) b mf b mf (partN b p.length) (j:Int) x s=(runY (fun q s=>c q (cutF b q) s) (tr b.Hanks.length (okP b (·.Low)) n (p++[(j:Int)])) s).map fun r=>bif r.2 then .next r.1 else .brk (false,r.1):=fun j x s _ hx=>by
   rw [Nat.sub_zero] at hx
   have hj:=(List.getElem?_eq_some_iff.1 hx).1
   have hcut:=cutS_bd ok (j:Int) p 0
   have hsn:=okP_snoc ok ho hx
   have hshH:shH b (p.length / 2)=b.Horses[p.length / 2].Shade:=by
    unfold shH;rw [List.getElem?_eq_getElem hlt]
   unfold g57_16
   rw [ixN_nat (show j<5 by omega),bsm]
   simp only [g59,bsm]
   rw [show cutF b p j=cutS b p 0 (j:Int) from rfl,wr_in (show -9223372036854775808≤cutS b p 0 (j:Int)+partN b p.length by omega) (by omega)]
   have hgo:okP b (·.Low) (p++[(j:Int)])=true→(slcL p 0 (p.length:Int)).bind (fun l=>(appL 8 l [(j:Int)]).bind fun l1=>(g57 c fuel l1 (aset (cutF b p) j (cutS b p 0 (j:Int)+partN b p.length)) b mf b mf s).bind fun (r:Bool×S)=>bif (!r.1) then some (.brk (false,r.2)) else some (.next r.2))=(runY (fun q s=>c q (cutF b q) s) (tr b.Hanks.length (okP b (·.Low)) n (p++[(j:Int)])) s).map fun r=>bif r.2 then (.next r.1:Ctl S (Bool×S)) else .brk (false,r.1):=fun hk=>by
    rw [slcL_all,bsm,appL_ok (by rw [List.length_append,List.length_singleton];omega),bsm]
    have hw:aset (cutF b p) j (cutS b p 0 (j:Int)+partN b p.length)=cutF b (p++[(j:Int)]):=by
     funext i
     rw [aset_get]
     unfold cutF
     rw [cutS_snoc,Nat.zero_add]
     by_cases e:i=j
     ·subst e;rw [if_pos rfl,decide_eq_true rfl,cond_true]
     ·rw [if_neg e,decide_eq_false (by omega),cond_false,Int.add_zero]
    rw [hw,p112 c ok hmf n fuel (p++[(j:Int)]) s (by rw [List.length_append,List.length_singleton];omega) (by omega) (fun x hx=>by
     rcases List.mem_append.1 hx with hx | hx
     ·exact hr x hx
     ·rw [List.mem_singleton] at hx;omega) hk]
    cases runY (fun q s=>c q (cutF b q) s) (tr b.Hanks.length (okP b (·.Low)) n (p++[(j:Int)])) s with
    | none=>rfl
    | some r=>obtain ⟨s',go⟩:=r;cases go<;>rfl
   have hno:okP b (·.Low) (p++[(j:Int)])=false→(some (.next s):Option (Ctl S (Bool×S)))=(runY (fun q s=>c q (cutF b q) s) (tr b.Hanks.length (okP b (·.Low)) n (p++[(j:Int)])) s).map fun r=>bif r.2 then .next r.1 else .brk (false,r.1):=fun hk=>by
    have:tr b.Hanks.length (okP b (·.Low)) n (p++[(j:Int)])=[]:=by
     cases n<;>rw [tr,hk]<;>rfl
    rw [this];rfl
   by_cases h1:x.Weight.Low<cutS b p 0 (j:Int)+partN b p.length
   ·rw [decide_eq_true h1] at hsn ⊢
    simp only [cond_true,bindC]
    exact hno (by rw [hsn];rfl)
   ·rw [decide_eq_false h1] at hsn ⊢
    simp only [cond_false,Bool.not_false,Bool.true_and] at hsn ⊢
    by_cases h2:p.length % 2=1
    ·have hlast:p.length - 1<p.length:=by omega
     have hlr:=hr _ (List.getElem_mem hlast)
     rw [decide_eq_true h2,cond_true,List.getElem?_eq_getElem hlast,Option.getD_some,hshH] at hsn
     rw [tmod_nat,tdiv_nat,wr_in (show -9223372036854775808≤((p.length / 2:Nat):Int) by omega) (by omega),decide_eq_true (show ((p.length % 2:Nat):Int)=1 by omega),cond_true,wr_in (show -9223372036854775808≤(p.length:Int) - 1 by omega) (by omega),show (p.length:Int) - 1=((p.length - 1:Nat):Int) by omega,ixL_nat,List.getElem?_eq_getElem hlast,bsm,g36,p59 ok hmf (horse:=((p.length / 2:Nat):Int)) (p:=b.Horses[p.length / 2]) (by rw [ixL_nat,List.getElem?_eq_getElem hlt]) hH.2.2 hlr.1 hlr.2 (show (0:Int)≤(j:Int) by omega) (by omega)]
     cases hd:dyesF b b.Horses[p.length / 2].Shade p[p.length - 1] (j:Int) with
     | none=>
      rw [hd] at hsn
      simp only [bsm,Bool.not_false,cond_true,bindC]
      exact hno hsn
     | some d=>
      rw [hd] at hsn
      simp only [bsm,Bool.not_true,cond_false,bindC]
      exact hgo hsn
    ·rw [decide_eq_false h2,cond_false] at hsn
     rw [tmod_nat,decide_eq_false (show ¬ ((p.length % 2:Nat):Int)=1 by omega),cond_false]
     simp only [bindC,bsm]
     exact hgo hsn
  have:=eachC_run (f:=g57_16 (g57 c fuel) p (cutF b p) b mf b mf (partN b p.length)) (fun q s=>c q (cutF b q) s) (fun j=>tr b.Hanks.length (okP b (·.Low)) n (p++[(j:Int)])) b.Hanks 0 s hstep
  rw [show ((0:Nat):Int)=0 from rfl] at this
  rw [this,tr,ho,cond_true]
  cases runY (fun q s=>c q (cutF b q) s) ((List.range' 0 b.Hanks.length).flatMap fun (k:Nat)=>tr b.Hanks.length (okP b (·.Low)) n (p++[(k:Int)])) s with
  | none=>rfl
  | some r=>obtain ⟨s',go⟩:=r;cases go<;>rfl
def plansL (b:HairBook) (by_:Span→Int):List (List Int):=(allp b.Hanks.length (2*b.Horses.length) []).filter (okP b by_)
theorem okP_nil {b:HairBook} {by_:Span→Int} (h:∀ x,x∈b.Hanks→0≤by_ x.Weight):okP b by_ []=true:=by
 unfold okP
 rw [Bool.and_eq_true]
 refine ⟨fitP_iff.2 fun k x hx=>?_,rfl⟩
 have:=h x (List.mem_of_getElem? hx)
 simp only [cutS];exact this
theorem cutF_nil (b:HairBook):arrL [(0:Int),0,0,0,0]=cutF b []:=by
 funext k
 match k with
 | 0=>rfl
 | 1=>rfl
 | 2=>rfl
 | 3=>rfl
 | 4=>rfl
 | k+5=>rfl
theorem p111 {S:Type} (c:List Int→(Nat→Int)→S→Option (S×Bool)) {b:HairBook} (ok:OkH b) {mf:List (Hair_dye×Span)} (hmf:ShOk b mf) (s:S):g56 c b mf b mf s=(runY (fun q s=>c q (cutF b q) s) (plansL b (·.Low)) s).map (·.1):=by
 have h3:=ok.l3
 unfold g56 g58
 rw [bsm,cutF_nil b,p112 c ok hmf (2*b.Horses.length) 1000 [] s (by simp) (by omega) (by simp) (okP_nil fun x hx=>by have:=(ok.hanks x hx).w;omega),tr_eq (okP_pre ok)]
 unfold plansL
 cases runY (fun q s=>c q (cutF b q) s) ((allp b.Hanks.length (2*b.Horses.length) []).filter (okP b (·.Low))) s<;>rfl
def servedB (b:HairBook):Bool:=!(plansL b (·.Low)).isEmpty
theorem p84 {b:HairBook} (ok:OkH b) {mf:List (Hair_dye×Span)} (hmf:ShOk b mf):g32 b mf=some (servedB b):=by
 unfold g32 g35 g34
 rw [bsm,bsm]
 simp only
 rw [p111 _ ok hmf]
 have:=runY_stop (B:=fun q u=>g32_r5 (q,cutF b q) u) (X:=Unit) () (plansL b (·.Low)) () (fun a s=>rfl)
 unfold servedB
 have e:runY (fun q s=>rndC g32_r5 (q,cutF b q) s) (plansL b (·.Low)) (.next ())=runY (fun a s=>rndC (fun q u=>g32_r5 (q,cutF b q) u) a s) (plansL b (·.Low)) (.next ()):=by
  congr 1
 rw [e,this]
 cases plansL b (·.Low)<;>rfl
theorem dyeQ_full {b:HairBook} {p:List Int} (hp:p.length=2*b.Horses.length):dyeQ b p=dyeK b p:=by
 unfold dyeQ dyeK
 rw [hp,show 2*b.Horses.length / 2=b.Horses.length by omega,Bool.eq_iff_iff,List.all_eq_true,List.all_eq_true]
 constructor
 ·intro h y hy
  rw [List.mem_iff_getElem?] at hy
  obtain ⟨k,hk⟩:=hy
  rw [List.getElem?_zipIdx] at hk
  cases hx:b.Horses[k]? with
  | none=>rw [hx] at hk;cases hk
  | some x=>
   rw [hx] at hk
   simp only [Option.map_some,Option.some.injEq,Nat.zero_add] at hk
   subst hk
   have:=h k (List.mem_range.2 (List.getElem?_eq_some_iff.1 hx).1)
   unfold shH at this
   rw [hx] at this
   exact this
 ·intro h k hk
  have hlt:=List.mem_range.1 hk
  have:=h (b.Horses[k],k) (by
   rw [List.mem_iff_getElem?]
   exact ⟨k,by rw [List.getElem?_zipIdx,List.getElem?_eq_getElem hlt];simp⟩)
  unfold shH
  rw [List.getElem?_eq_getElem hlt]
  exact this
theorem planB_iff {b:HairBook} {p:List Int}:planB b p=true↔p.length=2*b.Horses.length∧∀ n,n∈p→0≤n∧n<b.Hanks.length:=by
 constructor
 ·intro h;have:=plan_of h;exact ⟨this.len,this.rng⟩
 ·rintro ⟨h1,h2⟩
  simp only [planB,Bool.and_eq_true,decide_eq_true_eq,List.all_eq_true,rg_iff]
  exact ⟨by omega,fun n hn=>by have:=h2 n hn;omega⟩
theorem mem_allP {b:HairBook} {p:List Int}:p∈allp b.Hanks.length (2*b.Horses.length) []↔planB b p=true:=by
 rw [mem_allp,planB_iff]
 constructor
 ·rintro ⟨l,h1,h2,h3⟩
  rw [List.nil_append] at h1
  subst h1;exact ⟨h2,h3⟩
 ·rintro ⟨h1,h2⟩;exact ⟨p,rfl,h1,h2⟩
theorem mem_plans {b:HairBook} {p:List Int}:p∈plansL b (·.Low)↔planB b p=true∧worksB b p=true:=by
 unfold plansL
 rw [List.mem_filter,mem_allP]
 constructor
 ·rintro ⟨h1,h2⟩
  refine ⟨h1,?_⟩
  unfold okP at h2
  rw [dyeQ_full (planB_iff.1 h1).1] at h2
  exact h2
 ·rintro ⟨h1,h2⟩
  refine ⟨h1,?_⟩
  unfold okP
  rw [dyeQ_full (planB_iff.1 h1).1]
  exact h2
theorem served_iff {b:HairBook}:servedB b=true↔∃ p,planB b p=true∧worksB b p=true:=by
 unfold servedB
 constructor
 ·intro h
  cases hl:plansL b (·.Low) with
  | nil=>rw [hl] at h;cases h
  | cons p l=>exact ⟨p,mem_plans.1 (by rw [hl];simp)⟩
 ·rintro ⟨p,hp⟩
  cases hl:plansL b (·.Low) with
  | nil=>have:=mem_plans.2 hp;rw [hl] at this;cases this
  | cons q l=>rfl
end Go.Proofs.YthcpnbeikdhlkaaDoor
namespace Go.Proofs.YthcpnbeikdhlkaaDoor
open Go.Abs Go.Proofs.Tt
theorem p96_loop (n:Int):∀ (l:List Int) (i:Int),0≤i→∃ c,eachC (g17_2 n) l i ()=some c∧((n∈l∧∃ j,c=.brk j∧0≤j)∨(¬ n∈l∧c=.next ()))
 | [],i,h=>⟨_,rfl,.inr ⟨by simp,rfl⟩⟩
 | x::l,i,h=>by
  rw [eachC]
  by_cases e:x=n
  ·refine ⟨.brk i,?_,.inl ⟨by simp [e],i,rfl,h⟩⟩
   simp [g17_2,e,bsm]
  ·obtain ⟨c,h1,h2⟩:=p96_loop n l (i+1) (by omega)
   refine ⟨c,?_,?_⟩
   ·simpa [g17_2,e,bsm] using h1
   ·have:n∈x::l↔n∈l:=by simp [show ¬ n=x from fun h=>e h.symm]
    rw [this];exact h2
theorem p96 (l:List Int) (n:Int):∃ j,g17 l n=some j∧(0≤j↔n∈l):=by
 obtain ⟨c,h1,h2⟩:=p96_loop n l 0 (by omega)
 unfold g17
 rw [h1]
 rcases h2 with ⟨h2,j,rfl,h3⟩ | ⟨h2,rfl⟩
 ·exact ⟨j,rfl,fun _=>h2,fun _=>h3⟩
 ·exact ⟨-1,rfl,fun h=>by omega,fun h=>absurd h h2⟩
end Go.Proofs.YthcpnbeikdhlkaaDoor
set_option maxRecDepth 100000
namespace Go.Proofs.YthcpnbeikdhlkaaDoor
open Go Go.Abs Go.Proofs.Tt
def LT (H s:Nat):List Int:=(g12 (s:Int) (H:Int)).getD []
def shr (l m:List Int):Option Bool:=bif decide (l.length=m.length) then (g45 l m).bind fun r=>some (decide (r<0)) else some (decide (l.length<m.length))
def rk (H s:Nat):Nat:=((List.range (2 ^ H)).filter fun t=>shr (LT H t) (LT H s)==some true).length
def keepL (xs:List HairHorse) (l:List Int):List HairHorse:=(xs.zipIdx.filter fun y=>!decide ((y.2:Int)∈l)).map (·.1)
def cmpP (l best:List Int):Option Bool:=bif (decide ((best.length:Int)<(l.length:Int))) then (some true) else (bif (decide ((l.length:Int)=(best.length:Int))) then ((g45 l best).bind fun r0_3=>some (decide (0≤r0_3))) else (some false))
theorem fact48:((List.range 4).all fun T=>(List.range (2 ^ T)).all fun s=>g12 (s:Int) (T:Int)==some (LT T s))=true:=by kernel_rfl
theorem factC:((List.range 4).all fun T=>(List.range (2 ^ T)).all fun s=>(List.range (2 ^ T)).all fun t=>cmpP (LT T s) (LT T t)==some (!decide (rk T s<rk T t)))=true:=by kernel_rfl
theorem factS:((List.range 4).all fun T=>shl64 1 (T:Int)==((2 ^ T:Nat):Int))=true:=by kernel_rfl
theorem factZ:((List.range 4).all fun T=>(LT T 0==[])&&(rk T 0==0)&&((LT T (2 ^ T - 1)).length==T)&&((List.range (2 ^ T)).all fun s=>(s==0)||!((LT T s).length==0)))=true:=by kernel_rfl
theorem all2 {P:Nat→Nat→Bool} (h:((List.range 4).all fun T=>(List.range (2 ^ T)).all fun s=>P T s)=true) {T s:Nat} (hT:T≤3) (hs:s<2 ^ T):P T s=true:=by
 rw [List.all_eq_true] at h
 have:=h T (List.mem_range.2 (by omega))
 rw [List.all_eq_true] at this
 exact this s (List.mem_range.2 hs)
theorem all3 {P:Nat→Nat→Nat→Bool} (h:((List.range 4).all fun T=>(List.range (2 ^ T)).all fun s=>(List.range (2 ^ T)).all fun t=>P T s t)=true) {T s t:Nat} (hT:T≤3) (hs:s<2 ^ T) (ht:t<2 ^ T):P T s t=true:=by
 have:=all2 h hT hs
 rw [List.all_eq_true] at this
 exact this t (List.mem_range.2 ht)
theorem f48 {T s:Nat} (hT:T≤3) (hs:s<2 ^ T):g12 (s:Int) (T:Int)=some (LT T s):=by simpa using all2 fact48 hT hs
theorem fC {T s t:Nat} (hT:T≤3) (hs:s<2 ^ T) (ht:t<2 ^ T):cmpP (LT T s) (LT T t)=some (!decide (rk T s<rk T t)):=by
 have:=all3 factC hT hs ht
 rw [beq_iff_eq] at this;exact this
theorem fS {T:Nat} (hT:T≤3):shl64 1 (T:Int)=((2 ^ T:Nat):Int):=by
 have:=factS
 rw [List.all_eq_true] at this
 have:=this T (List.mem_range.2 (by omega))
 rw [beq_iff_eq] at this;exact this
theorem fz0 {T:Nat} (hT:T≤3):LT T 0=[]∧rk T 0=0∧(LT T (2 ^ T - 1)).length=T∧∀ s,s<2 ^ T→(LT T s).length=0→s=0:=by
 have:=factZ
 rw [List.all_eq_true] at this
 have:=this T (List.mem_range.2 (by omega))
 rw [Bool.and_eq_true,Bool.and_eq_true,Bool.and_eq_true,beq_iff_eq,beq_iff_eq,beq_iff_eq,List.all_eq_true] at this
 obtain ⟨⟨⟨h1,h2⟩,h3⟩,h4⟩:=this
 refine ⟨h1,h2,h3,fun s hs h=>?_⟩
 have:=h4 s (List.mem_range.2 hs)
 rw [Bool.or_eq_true,beq_iff_eq,h] at this
 simpa using this
theorem pow_pos' (T:Nat):1≤2 ^ T:=Nat.one_le_two_pow
theorem pow_le' {T:Nat} (hT:T≤3):2 ^ T≤8:=Nat.pow_le_pow_right (by decide) hT
theorem ks0_0:eachS (g16_14 0) ([]:List HairHorse) 0 (([],[]):List Int×List HairHorse)=some (LT 0 0,keepL [] (LT 0 0)):=by kernel_rfl
theorem kl0_0:(keepL [] (LT 0 0)).length+(LT 0 0).length=0:=by kernel_rfl
theorem ks1_0 (a:HairHorse):eachS (g16_14 0) ([a]:List HairHorse) 0 (([],[]):List Int×List HairHorse)=some (LT 1 0,keepL [a] (LT 1 0)):=by kernel_rfl
theorem kl1_0 (a:HairHorse):(keepL [a] (LT 1 0)).length+(LT 1 0).length=1:=by kernel_rfl
theorem ks1_1 (a:HairHorse):eachS (g16_14 1) ([a]:List HairHorse) 0 (([],[]):List Int×List HairHorse)=some (LT 1 1,keepL [a] (LT 1 1)):=by kernel_rfl
theorem kl1_1 (a:HairHorse):(keepL [a] (LT 1 1)).length+(LT 1 1).length=1:=by kernel_rfl
theorem ks2_0 (a b:HairHorse):eachS (g16_14 0) ([a,b]:List HairHorse) 0 (([],[]):List Int×List HairHorse)=some (LT 2 0,keepL [a,b] (LT 2 0)):=by kernel_rfl
theorem kl2_0 (a b:HairHorse):(keepL [a,b] (LT 2 0)).length+(LT 2 0).length=2:=by kernel_rfl
theorem ks2_1 (a b:HairHorse):eachS (g16_14 1) ([a,b]:List HairHorse) 0 (([],[]):List Int×List HairHorse)=some (LT 2 1,keepL [a,b] (LT 2 1)):=by kernel_rfl
theorem kl2_1 (a b:HairHorse):(keepL [a,b] (LT 2 1)).length+(LT 2 1).length=2:=by kernel_rfl
theorem ks2_2 (a b:HairHorse):eachS (g16_14 2) ([a,b]:List HairHorse) 0 (([],[]):List Int×List HairHorse)=some (LT 2 2,keepL [a,b] (LT 2 2)):=by kernel_rfl
theorem kl2_2 (a b:HairHorse):(keepL [a,b] (LT 2 2)).length+(LT 2 2).length=2:=by kernel_rfl
theorem ks2_3 (a b:HairHorse):eachS (g16_14 3) ([a,b]:List HairHorse) 0 (([],[]):List Int×List HairHorse)=some (LT 2 3,keepL [a,b] (LT 2 3)):=by kernel_rfl
theorem kl2_3 (a b:HairHorse):(keepL [a,b] (LT 2 3)).length+(LT 2 3).length=2:=by kernel_rfl
theorem ks3_0 (a b c:HairHorse):eachS (g16_14 0) ([a,b,c]:List HairHorse) 0 (([],[]):List Int×List HairHorse)=some (LT 3 0,keepL [a,b,c] (LT 3 0)):=by kernel_rfl
theorem kl3_0 (a b c:HairHorse):(keepL [a,b,c] (LT 3 0)).length+(LT 3 0).length=3:=by kernel_rfl
theorem ks3_1 (a b c:HairHorse):eachS (g16_14 1) ([a,b,c]:List HairHorse) 0 (([],[]):List Int×List HairHorse)=some (LT 3 1,keepL [a,b,c] (LT 3 1)):=by kernel_rfl
theorem kl3_1 (a b c:HairHorse):(keepL [a,b,c] (LT 3 1)).length+(LT 3 1).length=3:=by kernel_rfl
theorem ks3_2 (a b c:HairHorse):eachS (g16_14 2) ([a,b,c]:List HairHorse) 0 (([],[]):List Int×List HairHorse)=some (LT 3 2,keepL [a,b,c] (LT 3 2)):=by kernel_rfl
theorem kl3_2 (a b c:HairHorse):(keepL [a,b,c] (LT 3 2)).length+(LT 3 2).length=3:=by kernel_rfl
theorem ks3_3 (a b c:HairHorse):eachS (g16_14 3) ([a,b,c]:List HairHorse) 0 (([],[]):List Int×List HairHorse)=some (LT 3 3,keepL [a,b,c] (LT 3 3)):=by kernel_rfl
theorem kl3_3 (a b c:HairHorse):(keepL [a,b,c] (LT 3 3)).length+(LT 3 3).length=3:=by kernel_rfl
theorem ks3_4 (a b c:HairHorse):eachS (g16_14 4) ([a,b,c]:List HairHorse) 0 (([],[]):List Int×List HairHorse)=some (LT 3 4,keepL [a,b,c] (LT 3 4)):=by kernel_rfl
theorem kl3_4 (a b c:HairHorse):(keepL [a,b,c] (LT 3 4)).length+(LT 3 4).length=3:=by kernel_rfl
theorem ks3_5 (a b c:HairHorse):eachS (g16_14 5) ([a,b,c]:List HairHorse) 0 (([],[]):List Int×List HairHorse)=some (LT 3 5,keepL [a,b,c] (LT 3 5)):=by kernel_rfl
theorem kl3_5 (a b c:HairHorse):(keepL [a,b,c] (LT 3 5)).length+(LT 3 5).length=3:=by kernel_rfl
theorem ks3_6 (a b c:HairHorse):eachS (g16_14 6) ([a,b,c]:List HairHorse) 0 (([],[]):List Int×List HairHorse)=some (LT 3 6,keepL [a,b,c] (LT 3 6)):=by kernel_rfl
theorem kl3_6 (a b c:HairHorse):(keepL [a,b,c] (LT 3 6)).length+(LT 3 6).length=3:=by kernel_rfl
theorem ks3_7 (a b c:HairHorse):eachS (g16_14 7) ([a,b,c]:List HairHorse) 0 (([],[]):List Int×List HairHorse)=some (LT 3 7,keepL [a,b,c] (LT 3 7)):=by kernel_rfl
theorem kl3_7 (a b c:HairHorse):(keepL [a,b,c] (LT 3 7)).length+(LT 3 7).length=3:=by kernel_rfl
theorem ks {xs:List HairHorse} (hl:xs.length≤3) {s:Nat} (hs:s<2 ^ xs.length):eachS (g16_14 (s:Int)) xs 0 (([],[]):List Int×List HairHorse)=some (LT xs.length s,keepL xs (LT xs.length s)):=by
 match xs,hl,s,hs with
 | [],_,0,_=>exact ks0_0
 | [],_,s+1,hs=>exact absurd hs (by simp)
 | [a],_,0,_=>exact ks1_0 a
 | [a],_,1,_=>exact ks1_1 a
 | [a],_,s+2,hs=>exact absurd hs (by simp)
 | [a,b],_,0,_=>exact ks2_0 a b
 | [a,b],_,1,_=>exact ks2_1 a b
 | [a,b],_,2,_=>exact ks2_2 a b
 | [a,b],_,3,_=>exact ks2_3 a b
 | [a,b],_,s+4,hs=>exact absurd hs (by simp)
 | [a,b,c],_,0,_=>exact ks3_0 a b c
 | [a,b,c],_,1,_=>exact ks3_1 a b c
 | [a,b,c],_,2,_=>exact ks3_2 a b c
 | [a,b,c],_,3,_=>exact ks3_3 a b c
 | [a,b,c],_,4,_=>exact ks3_4 a b c
 | [a,b,c],_,5,_=>exact ks3_5 a b c
 | [a,b,c],_,6,_=>exact ks3_6 a b c
 | [a,b,c],_,7,_=>exact ks3_7 a b c
 | [a,b,c],_,s+8,hs=>exact absurd hs (by simp)
 | _::_::_::_::_,hl,_,_=>exact absurd hl (by simp)
theorem kl {xs:List HairHorse} (hl:xs.length≤3) {s:Nat} (hs:s<2 ^ xs.length):(keepL xs (LT xs.length s)).length+(LT xs.length s).length=xs.length:=by
 match xs,hl,s,hs with
 | [],_,0,_=>exact kl0_0
 | [],_,s+1,hs=>exact absurd hs (by simp)
 | [a],_,0,_=>exact kl1_0 a
 | [a],_,1,_=>exact kl1_1 a
 | [a],_,s+2,hs=>exact absurd hs (by simp)
 | [a,b],_,0,_=>exact kl2_0 a b
 | [a,b],_,1,_=>exact kl2_1 a b
 | [a,b],_,2,_=>exact kl2_2 a b
 | [a,b],_,3,_=>exact kl2_3 a b
 | [a,b],_,s+4,hs=>exact absurd hs (by simp)
 | [a,b,c],_,0,_=>exact kl3_0 a b c
 | [a,b,c],_,1,_=>exact kl3_1 a b c
 | [a,b,c],_,2,_=>exact kl3_2 a b c
 | [a,b,c],_,3,_=>exact kl3_3 a b c
 | [a,b,c],_,4,_=>exact kl3_4 a b c
 | [a,b,c],_,5,_=>exact kl3_5 a b c
 | [a,b,c],_,6,_=>exact kl3_6 a b c
 | [a,b,c],_,7,_=>exact kl3_7 a b c
 | [a,b,c],_,s+8,hs=>exact absurd hs (by simp)
 | _::_::_::_::_,hl,_,_=>exact absurd hl (by simp)
def woS (b:HairBook) (s:Nat):HairBook:=⟨b.Hanks,keepL b.Horses (LT b.Horses.length s),b.Dark,b.Near,b.Match⟩
theorem keepL_mem {xs:List HairHorse} {l:List Int} {x:HairHorse} (h:x∈keepL xs l):x∈xs:=by
 unfold keepL at h
 rw [List.mem_map] at h
 obtain ⟨y,hy,rfl⟩:=h
 have hm:=(List.mem_filter.1 hy).1
 rw [List.mem_iff_getElem?] at hm
 obtain ⟨k,hk⟩:=hm
 rw [List.getElem?_zipIdx] at hk
 cases hx:xs[k]? with
 | none=>rw [hx] at hk;cases hk
 | some z=>
  rw [hx] at hk
  simp only [Option.map_some,Option.some.injEq] at hk
  rw [← hk]
  exact List.mem_of_getElem? hx
theorem keepL_len (xs:List HairHorse) (l:List Int):(keepL xs l).length≤xs.length:=by
 unfold keepL
 rw [List.length_map]
 exact Nat.le_trans (List.length_filter_le _ _) (by rw [List.length_zipIdx];exact Nat.le_refl _)
theorem okW {b:HairBook} (hok:okH b=true) (s:Nat):okH (woS b s)=true:=by
 have hl:=keepL_len b.Horses (LT b.Horses.length s)
 unfold okH at hok ⊢
 simp only [Bool.and_eq_true,decide_eq_true_eq,List.all_eq_true] at hok ⊢
 obtain ⟨⟨⟨⟨⟨⟨h1,h2⟩,h3⟩,h4⟩,h5⟩,h6⟩,h7⟩:=hok
 refine ⟨⟨⟨⟨⟨⟨h1,?_⟩,h3⟩,h4⟩,h5⟩,h6⟩,fun x hx=>h7 x (keepL_mem hx)⟩
 simp only [woS]
 omega
theorem served_none {b:HairBook} (ok:OkH b) (h:b.Horses.length=0):servedB b=true:=by
 rw [served_iff]
 refine ⟨[],planB_iff.2 ⟨by simp [h],by simp⟩,?_⟩
 have:b.Horses=[]:=List.length_eq_zero_iff.1 h
 have hf:=okP_nil (b:=b) (by_:=fun s=>s.Low) (fun x hx=>by have:=(ok.hanks x hx).w;omega)
 unfold okP at hf
 rw [Bool.and_eq_true] at hf
 unfold worksB dyeK
 rw [this]
 rw [show fitK b []=fitP b (fun s=>s.Low) [] from rfl,hf.1]
 rfl
theorem served_all {b:HairBook} (hok:okH b=true):servedB (woS b (2 ^ b.Horses.length - 1))=true:=by
 have ok:=okH_of hok
 have h3:=ok.l3
 have hp:=pow_pos' b.Horses.length
 refine served_none (okH_of (okW hok _)) ?_
 have:=kl h3 (s:=2 ^ b.Horses.length - 1) (by omega)
 rw [(fz0 h3).2.2.1] at this
 unfold woS
 simp only
 omega
structure LackIs (b:HairBook) (t:Nat):Prop where
 lt:t<2 ^ b.Horses.length
 sv:servedB (woS b t)=true
 le:∀ u,u<2 ^ b.Horses.length→servedB (woS b u)=true→rk b.Horses.length t≤rk b.Horses.length u
def LackInv (b:HairBook) (i:Int) (s:List Int×Bool):Prop:=(s=([],false)∧∀ u:Nat,(u:Int)<i→servedB (woS b u)=false) ∨
 ∃ t:Nat,s=(LT b.Horses.length t,true)∧t<2 ^ b.Horses.length∧servedB (woS b t)=true∧∀ u:Nat,(u:Int)<i→servedB (woS b u)=true→rk b.Horses.length t≤rk b.Horses.length u
theorem p29_8 {b:HairBook} (hok:okH b=true) {s:Nat} (hs:s<2 ^ b.Horses.length) {st:List Int×Bool} (hI:LackInv b s st):∃ st',g16_8 b (s:Int) st=some st'∧LackInv b ((s:Int)+1) st':=by
 have ok:=okH_of hok
 have h3:=ok.l3
 have okw:=okH_of (okW hok s)
 obtain ⟨mf,e80,hmf⟩:=p80 okw
 have hmk:HairBook.mk b.Hanks (keepL b.Horses (LT b.Horses.length s)) b.Dark b.Near b.Match=woS b s:=rfl
 rcases hI with ⟨rfl,hI⟩ | ⟨t,rfl,ht,hsv,hle⟩
 ·have he:g16_8 b (s:Int) ([],false)=some (bif servedB (woS b s) then (LT b.Horses.length s,true) else ([],false)):=by
   unfold g16_8
   rw [ks h3 hs]
   simp only [bsm,cond_false,hmk,e80,p84 okw hmf]
   cases servedB (woS b s)<;>rfl
  refine ⟨_,he,?_⟩
  cases hv:servedB (woS b s) with
  | true=>
   refine .inr ⟨s,rfl,hs,hv,fun u hu hsu=>?_⟩
   by_cases e:u=s
   ·subst e;exact Nat.le_refl _
   ·have:=hI u (by omega);rw [hsu] at this;cases this
  | false=>
   refine .inl ⟨rfl,fun u hu=>?_⟩
   by_cases e:u=s
   ·subst e;exact hv
   ·exact hI u (by omega)
 ·have hc:=fC h3 hs ht
  have he:g16_8 b (s:Int) (LT b.Horses.length t,true)=some (bif decide (rk b.Horses.length s<rk b.Horses.length t)&&servedB (woS b s) then (LT b.Horses.length s,true) else (LT b.Horses.length t,true)):=by
   unfold g16_8
   rw [ks h3 hs]
   simp only [bsm,cond_true]
   have key:∀ {X:Option Bool} {F:Bool→Option (List Int×Bool)} {v:Bool},X=some v→X.bind F=F v:=by
    intro X F v h;rw [h];rfl
   refine Eq.trans (key hc) ?_
   cases decide (rk b.Horses.length s<rk b.Horses.length t) with
   | false=>rfl
   | true=>
    simp only [Bool.not_true,cond_false,hmk,e80,bsm,p84 okw hmf,Bool.true_and]
    cases servedB (woS b s)<;>rfl
  refine ⟨_,he,?_⟩
  by_cases h1:rk b.Horses.length s<rk b.Horses.length t
  ·rw [decide_eq_true h1,Bool.true_and]
   cases hv:servedB (woS b s) with
   | true=>
    refine .inr ⟨s,rfl,hs,hv,fun u hu hsu=>?_⟩
    by_cases e:u=s
    ·subst e;exact Nat.le_refl _
    ·have:=hle u (by omega) hsu;omega
   | false=>
    refine .inr ⟨t,rfl,ht,hsv,fun u hu hsu=>?_⟩
    by_cases e:u=s
    ·subst e;rw [hv] at hsu;cases hsu
    ·exact hle u (by omega) hsu
  ·rw [decide_eq_false h1,Bool.false_and]
   refine .inr ⟨t,rfl,ht,hsv,fun u hu hsu=>?_⟩
   by_cases e:u=s
   ·subst e;omega
   ·exact hle u (by omega) hsu
theorem p29 {b:HairBook} (hok:okH b=true):∃ t,LackIs b t∧g16 b=some (LT b.Horses.length t,0):=by
 have ok:=okH_of hok
 have h3:=ok.l3
 have hp:=pow_pos' b.Horses.length
 have hp8:=pow_le' h3
 obtain ⟨st,e,hI⟩:=forS_inv (f:=g16_8 b) (LackInv b) (2 ^ b.Horses.length) 0 ([],false) (.inl ⟨rfl,fun u hu=>by omega⟩) (fun j s h1 h2 hs=>by
  obtain ⟨k,rfl⟩:∃ k:Nat,j=(k:Int):=⟨j.toNat,by omega⟩
  exact p29_8 hok (by omega) hs)
 rcases hI with ⟨rfl,hI⟩ | ⟨t,rfl,ht,hsv,hle⟩
 ·have:=hI (2 ^ b.Horses.length - 1) (by omega)
  rw [served_all hok] at this;cases this
 ·refine ⟨t,⟨ht,hsv,fun u hu h=>hle u (by omega) h⟩,?_⟩
  unfold g16
  rw [p17,hok,bsm]
  simp only [cond_true,ne_eq,not_true_eq_false,decide_false,cond_false]
  rw [must_t (by rw [decide_eq_true_eq];omega),bsm,fS h3,must_t (by rw [decide_eq_true_eq];omega),bsm,show (((2 ^ b.Horses.length:Nat):Int) - 0).toNat=2 ^ b.Horses.length by omega,e,bsm]
  simp only [slcL_all,bsm]
end Go.Proofs.YthcpnbeikdhlkaaDoor
namespace Go.Proofs.YthcpnbeikdhlkaaDoor
open Go Go.Abs Go.Proofs.Tt
def okSt (s:Span):Bool:=rg s.Low 0 s.High&&decide (s.High≤40)&&decide (wr (s.High - s.Low)≤4)
def okNd (m:Int) (l:List Int):Bool:=decide ((l.length:Int)=m)&&l.all fun n=>rg n 0 9
def okHa (b:HarnessBook):Bool:=okH b.Hair&&rg (b.Stock.length:Int) 1 3&&decide ((b.Needs.length:Int)=(b.Hair.Horses.length:Int))&&rg b.Pack 1 12&&rg b.Bad 0 (wr (b.Pack - 1))&&b.Stock.all okSt&&b.Needs.all (okNd (b.Stock.length:Int))
theorem hb68 (n a c:Int):g54 n a c=some (rg n a c):=rfl
theorem hb18_16 (i:Int) (x:Span) (s:Bool):g24_16 i x s=some (s&&okSt x):=by
 simp only [g24_16,hb68,bsm,cs,okSt,Bool.cond_false_right,Bool.and_assoc]
theorem hb18_38 (i:Int) (x:Int) (s:Bool):g24_38 i x s=some (s&&rg x 0 9):=by
 simp only [g24_38,hb68,bsm,cs,Bool.cond_false_right]
theorem hb18_29 (b:HarnessBook) (i:Int) (x:List Int) (s:Bool):g24_29 b i x s=some (s&&okNd (b.Stock.length:Int) x):=by
 simp only [g24_29,bsm,cs,eachS_all hb18_38,okNd,Bool.cond_false_right,Bool.and_assoc]
theorem hb18 (b:HarnessBook):g24 b=some (bif okHa b then 0 else 100):=by
 unfold g24
 rw [p17,bsm]
 have e:decide ((bif okH b.Hair then (0:Int) else 60)=0)=okH b.Hair:=by cases okH b.Hair<;>rfl
 simp only [e,hb68,bsm,cs,Bool.cond_false_right,eachS_all hb18_16,eachS_all (hb18_29 b)]
 have:∀ x:Bool,(bif !x then (100:Int) else 0)=bif x then 0 else 100:=by intro x;cases x<;>rfl
 rw [this]
 simp only [okHa,Bool.and_assoc]
structure HaOk (b:HarnessBook):Prop where
 ok:okH b.Hair=true
 s1:1≤b.Stock.length
 s3:b.Stock.length≤3
 nl:b.Needs.length=b.Hair.Horses.length
 n3:b.Needs.length≤3
 pack:1≤b.Pack∧b.Pack≤12
 bad:0≤b.Bad∧b.Bad≤b.Pack - 1
 st:∀ s,s∈b.Stock→0≤s.Low∧s.Low≤s.High∧s.High≤40∧s.High - s.Low≤4
 nd:∀ l,l∈b.Needs→l.length=b.Stock.length∧∀ n,n∈l→0≤n∧n≤9
theorem haOk_of {b:HarnessBook} (h:okHa b=true):HaOk b:=by
 simp only [okHa,Bool.and_eq_true,rg_iff,decide_eq_true_eq,List.all_eq_true] at h
 obtain ⟨⟨⟨⟨⟨⟨h1,h2⟩,h3⟩,h4⟩,h5⟩,h6⟩,h7⟩:=h
 have h8:=(okH_of h1).l3
 rw [wr_in (by omega) (by omega)] at h5
 refine ⟨h1,by omega,by omega,by omega,by omega,h4,h5,fun s hs=>?_,fun l hl=>?_⟩
 ·have:=h6 s hs
  simp only [okSt,Bool.and_eq_true,rg_iff,decide_eq_true_eq] at this
  obtain ⟨⟨a1,a2⟩,a3⟩:=this
  rw [wr_in (by omega) (by omega)] at a3
  omega
 ·have:=h7 l hl
  simp only [okNd,Bool.and_eq_true,rg_iff,decide_eq_true_eq,List.all_eq_true] at this
  exact ⟨by omega,this.2⟩
theorem haOk_to {b:HarnessBook} (h:HaOk b):okHa b=true:=by
 have h8:=h.bad
 have h9:=h.pack
 simp only [okHa,Bool.and_eq_true,rg_iff,decide_eq_true_eq,List.all_eq_true]
 rw [wr_in (by omega) (by omega)]
 refine ⟨⟨⟨⟨⟨⟨h.ok,by have:=h.s1;have:=h.s3;omega⟩,by rw [h.nl]⟩,h.pack⟩,h.bad⟩,fun s hs=>?_⟩,fun l hl=>?_⟩
 ·have:=h.st s hs
  simp only [okSt,Bool.and_eq_true,rg_iff,decide_eq_true_eq]
  rw [wr_in (by omega) (by omega)]
  omega
 ·have:=h.nd l hl
  simp only [okNd,Bool.and_eq_true,rg_iff,decide_eq_true_eq,List.all_eq_true]
  exact ⟨by omega,this.2⟩
theorem q126_iff (x y:Harness_want):q124 x y=true↔x=y:=by
 cases x;cases y
 simp [q124]
def ndOf (b:HarnessBook) (h k:Int):Int:=match b.Needs[h.toNat]? with
 | some l=>(l[k.toNat]?).getD 0
 | none=>0
def NdK (b:HarnessBook) (h0 k0:Int) (m:List (Harness_want×Int)):Prop:=∀ h k,0≤h→mget q124 m ⟨h,k⟩=bif (decide (h<h0)&&decide (0≤k)&&decide (k<b.Stock.length))||(decide (h=h0)&&decide (0≤k)&&decide (k<k0)) then some (ndOf b h k) else none
theorem hb93_13 {b:HarnessBook} {h:Nat} {l:List Int} (hl:b.Needs[h]?=some l) {k:Nat} {n:Int} (hn:l[k]?=some n) {m:List (Harness_want×Int)} (hm:NdK b (h:Int) (k:Int) m):∃ m',g61_13 (h:Int) (k:Int) n m=some m'∧NdK b (h:Int) ((k+1:Nat):Int) m':=by
 have hnone:mget q124 m ⟨(h:Int),(k:Int)⟩=none:=by
  rw [hm _ _ (by omega)]
  have:((decide ((h:Int)<(h:Int))&&decide (0≤(k:Int))&&decide ((k:Int)<b.Stock.length))||(decide ((h:Int)=(h:Int))&&decide (0≤(k:Int))&&decide ((k:Int)<(k:Int))))=false:=by simp
  rw [this];rfl
 have hv:ndOf b (h:Int) (k:Int)=n:=by
  unfold ndOf
  rw [Int.toNat_natCast,hl]
  simp [hn]
 refine ⟨m++[(⟨(h:Int),(k:Int)⟩,n)],?_,fun h' k' h0=>?_⟩
 ·unfold g61_13 mput
  rw [hnone];rfl
 ·rw [mget_append]
  by_cases he:h'=(h:Int)∧k'=(k:Int)
  ·obtain ⟨rfl,rfl⟩:=he
   rw [hnone]
   have hq:q124 ⟨(h:Int),(k:Int)⟩ ⟨(h:Int),(k:Int)⟩=true:=(q126_iff _ _).2 rfl
   have ht:((decide ((h:Int)<(h:Int))&&decide (0≤(k:Int))&&decide ((k:Int)<b.Stock.length))||(decide ((h:Int)=(h:Int))&&decide (0≤(k:Int))&&decide ((k:Int)<((k+1:Nat):Int))))=true:=by
    simp;omega
   rw [ht,hv]
   simp only [hq,cond_true]
  ·have hq:q124 ⟨h',k'⟩ ⟨(h:Int),(k:Int)⟩=false:=by
    cases hc:q124 ⟨h',k'⟩ ⟨(h:Int),(k:Int)⟩ with
    | false=>rfl
    | true=>
     have:=(q126_iff _ _).1 hc
     injection this with e1 e2
     exact absurd ⟨e1,e2⟩ he
   rw [hm _ _ h0,hq]
   have:(decide (h'=(h:Int))&&decide (0≤k')&&decide (k'<(k:Int)))=(decide (h'=(h:Int))&&decide (0≤k')&&decide (k'<((k+1:Nat):Int))):=by
    rw [Bool.eq_iff_iff]
    simp only [Bool.and_eq_true,decide_eq_true_eq]
    constructor
    ·rintro ⟨⟨a1,a2⟩,a3⟩;exact ⟨⟨a1,a2⟩,by omega⟩
    ·rintro ⟨⟨a1,a2⟩,a3⟩
     refine ⟨⟨a1,a2⟩,?_⟩
     by_cases e:k'=(k:Int)
     ·exact absurd ⟨a1,e⟩ he
     ·omega
   rw [this]
   cases (decide (h'<(h:Int))&&decide (0≤k')&&decide (k'<b.Stock.length))||(decide (h'=(h:Int))&&decide (0≤k')&&decide (k'<((k+1:Nat):Int)))<;>rfl
def NdOk (b:HarnessBook) (m:List (Harness_want×Int)):Prop:=∀ (h k:Nat),h<b.Needs.length→k<b.Stock.length→mget q124 m ⟨(h:Int),(k:Int)⟩=some (ndOf b h k)
def baldL (b:HarnessBook):List Int:=((g16 b.Hair).map (·.1)).getD []
theorem bald_eq {b:HarnessBook} (ok:HaOk b):g16 b.Hair=some (baldL b,0):=by
 obtain ⟨t,_,e⟩:=p29 ok.ok
 unfold baldL
 rw [e];rfl
theorem hb93 {b:HarnessBook} (ok:HaOk b):∃ m,g61 b=some (b,baldL b,m)∧NdOk b m:=by
 have h0:mput q124 ([]:List (Harness_want×Int)) (Harness_want.mk (-1) (-1)) 0=some [(Harness_want.mk (-1) (-1),0)]:=rfl
 obtain ⟨m,em,hm⟩:=eachS_inv (f:=g61_7) (fun h m=>NdK b (h:Int) 0 m) b.Needs 0 [(Harness_want.mk (-1) (-1),0)] (fun h k hh=>by
  have:((decide (h<((0:Nat):Int))&&decide (0≤k)&&decide (k<b.Stock.length))||(decide (h=((0:Nat):Int))&&decide (0≤k)&&decide (k<0)))=false:=by
   rw [Bool.eq_false_iff]
   intro hc
   simp only [Bool.or_eq_true,Bool.and_eq_true,decide_eq_true_eq] at hc
   omega
  rw [this]
  have hq:q124 ⟨h,k⟩ ⟨-1,-1⟩=false:=by
   cases hc:q124 ⟨h,k⟩ ⟨-1,-1⟩ with
   | false=>rfl
   | true=>
    have:=(q126_iff _ _).1 hc
    injection this with e1 e2
    omega
  simp only [mget,mfd,hq,cond_false];rfl) (fun h l m hk hx hm=>by
  rw [Nat.sub_zero] at hx
  obtain ⟨m',e',h'⟩:=eachS_inv (f:=g61_13 (h:Int)) (fun k m=>NdK b (h:Int) (k:Int) m) l 0 m hm (fun k n s k1 k2 hs=>hb93_13 hx (by rwa [Nat.sub_zero] at k2) hs)
  refine ⟨m',by unfold g61_7;rw [show (0:Int)=((0:Nat):Int) from rfl,e',bsm],fun h2 k2 hh=>?_⟩
  rw [h' _ _ hh]
  congr 1
  have:=(ok.nd l (List.mem_of_getElem? hx)).1
  rw [Bool.eq_iff_iff]
  simp only [Bool.or_eq_true,Bool.and_eq_true,decide_eq_true_eq]
  omega)
 refine ⟨m,?_,fun h k h1 h2=>?_⟩
 ·unfold g61
  rw [h0,bsm,bald_eq ok,bsm]
  simp only
  rw [show ((0:Nat):Int)=0 from rfl] at em
  rw [em,bsm]
 ·rw [hm _ _ (by omega)]
  have:((decide ((h:Int)<((0+b.Needs.length:Nat):Int))&&decide (0≤(k:Int))&&decide ((k:Int)<b.Stock.length))||(decide ((h:Int)=((0+b.Needs.length:Nat):Int))&&decide (0≤(k:Int))&&decide ((k:Int)<0)))=true:=by
   simp only [Bool.or_eq_true,Bool.and_eq_true,decide_eq_true_eq]
   omega
  rw [this];rfl
theorem hb59 {b:HarnessBook} (ok:HaOk b):∃ m,g37 b true=some (.brk (b,baldL b,m,0))∧NdOk b m:=by
 obtain ⟨m,e,h⟩:=hb93 ok
 refine ⟨m,?_,h⟩
 unfold g37
 rw [hb18,haOk_to ok,bsm,e]
 rfl
end Go.Proofs.YthcpnbeikdhlkaaDoor
namespace Go.Proofs.YthcpnbeikdhlkaaDoor
open Go Go.Abs Go.Proofs.Tt
theorem hb108_loop (v:Int):∀ (l:List Int) (i:Int),0≤i→∃ c,eachC (g62_3 v) l i ()=some c∧((v∈l∧∃ j,c=.brk j∧0≤j)∨(¬ v∈l∧c=.next ()))
 | [],i,h=>⟨_,rfl,.inr ⟨by simp,rfl⟩⟩
 | x::l,i,h=>by
  rw [eachC]
  by_cases e:v=x
  ·refine ⟨.brk i,?_,.inl ⟨by simp [e],i,rfl,h⟩⟩
   simp [g62_3,e,bsm]
  ·obtain ⟨c,h1,h2⟩:=hb108_loop v l (i+1) (by omega)
   refine ⟨c,?_,?_⟩
   ·simpa [g62_3,e,bsm] using h1
   ·have:v∈x::l↔v∈l:=by simp [e]
    rw [this];exact h2
theorem hb89 (l:List Int) (v:Int):g44 l v=some (decide (v∈l)):=by
 obtain ⟨c,h1,h2⟩:=hb108_loop v l 0 (by omega)
 unfold g44 g62
 rw [h1]
 rcases h2 with ⟨h2,j,rfl,h3⟩ | ⟨h2,rfl⟩
 ·show some (decide (0≤j))=_
  rw [decide_eq_true h3,decide_eq_true h2]
 ·show some (decide (0≤(-1:Int)))=_
  rw [decide_eq_false h2];rfl
theorem hb102 (b:HarnessBook) (bald:List Int) (m:List (Harness_want×Int)) (h:Int):g67 b bald m h=some (!decide (h∈bald)):=by
 unfold g67
 rw [hb89];rfl
theorem aset_g (w:Nat→Int) (j k:Nat) (x:Int):aset w j x k=if k=j then x else w k:=by
 unfold aset
 by_cases h:k=j
 ·subst h;simp
 ·have:Nat.beq k j=false:=by
   cases hb:Nat.beq k j with
   | true=>exact absurd (Nat.eq_of_beq_eq_true hb) h
   | false=>rfl
  rw [this,if_neg h];rfl
theorem hb103 {b:HarnessBook} (ok:HaOk b) {m:List (Harness_want×Int)} (hm:NdOk b m) (bald:List Int) {h:Nat} (hh:h<b.Needs.length) :
  ∃ w,g68 b bald m (h:Int)=some w∧∀ k:Nat,w k=if k<b.Stock.length then ndOf b h k else 0:=by
 have hs:=ok.s3
 obtain ⟨w,e,hw⟩:=eachS_inv (f:=g68_5 m (h:Int)) (fun n w=>∀ k:Nat,w k=if k<n then ndOf b h k else 0) b.Stock 0 (arrL [0,0,0]) (fun k=>by
  rw [if_neg (by omega)]
  unfold arrL
  match k with
  | 0=>rfl
  | 1=>rfl
  | 2=>rfl
  | k+3=>rfl) (fun j s w hj hx hw=>by
  rw [Nat.sub_zero] at hx
  have hlt:j<b.Stock.length:=(List.getElem?_eq_some_iff.1 hx).1
  refine ⟨aset w j (ndOf b h j),?_,fun k=>?_⟩
  ·unfold g68_5
   have:((h:Int)==-1)=false:=by
    rw [beq_eq_false_iff_ne];omega
   rw [this,ixN_nat (by omega),hm h j hh hlt]
   rfl
  ·rw [aset_g,hw]
   by_cases e:k=j
   ·subst e;rw [if_pos rfl,if_pos (by omega)]
   ·rw [if_neg e]
    by_cases e2:k<j
    ·rw [if_pos e2,if_pos (by omega)]
    ·rw [if_neg e2,if_neg (by omega)])
 refine ⟨w,?_,fun k=>?_⟩
 ·unfold g68 g66
  rw [bsm]
  rw [show ((0:Nat):Int)=0 from rfl] at e
  rw [e,bsm]
 ·rw [hw,Nat.zero_add]
def wlS (bald:List Int) (kind:Nat):List (List Int)→Nat→List Int
 | [],_=>[]
 | l::ls,h=>(bif decide ((h:Int)∈bald) then [] else [(l[kind]?).getD 0])++wlS bald kind ls (h+1)
def sumL:List Int→Int
 | []=>0
 | x::xs=>x+sumL xs
def want (b:HarnessBook) (kind:Nat):Int:=sumL (wlS (baldL b) kind b.Needs 0)
theorem wl_len (bald:List Int) (kind:Nat):∀ (ls:List (List Int)) (h:Nat),(wlS bald kind ls h).length≤ls.length
 | [],h=>Nat.le_refl _
 | l::ls,h=>by
  have:=wl_len bald kind ls (h+1)
  rw [wlS,List.length_append]
  cases decide ((h:Int)∈bald)<;>simp<;>omega
theorem wl_bd (bald:List Int) (kind:Nat):∀ (ls:List (List Int)) (h:Nat),(∀ l,l∈ls→∀ n,n∈l→0≤n∧n≤9)→∀ n,n∈wlS bald kind ls h→0≤n∧n≤9
 | [],h,hl,n,hn=>by cases hn
 | l::ls,h,hl,n,hn=>by
  rw [wlS,List.mem_append] at hn
  rcases hn with hn | hn
  ·cases hc:decide ((h:Int)∈bald) with
   | true=>rw [hc] at hn;cases hn
   | false=>
    rw [hc] at hn
    simp only [cond_false,List.mem_singleton] at hn
    subst hn
    cases he:l[kind]? with
    | none=>simp
    | some x=>exact hl l (by simp) x (List.mem_of_getElem? he)
  ·exact wl_bd bald kind ls (h+1) (fun l hl'=>hl l (by simp [hl'])) n hn
theorem sum_bd:∀ (l:List Int),(∀ n,n∈l→0≤n∧n≤9)→0≤sumL l∧sumL l≤9*l.length
 | [],h=>⟨Int.le_refl _,Int.le_refl _⟩
 | x::l,h=>by
  have h1:=h x (by simp)
  have h2:=sum_bd l (fun n hn=>h n (by simp [hn]))
  rw [sumL,List.length_cons]
  omega
theorem hb117_loop:∀ (l:List Int) (i s:Int),(∀ n,n∈l→0≤n∧n≤9)→0≤s→s+9*l.length≤1000→eachS g74_3 l i s=some (s+sumL l)
 | [],i,s,h,h1,h2=>by rw [eachS,sumL,Int.add_zero]
 | x::l,i,s,h,h1,h2=>by
  have hx:=h x (by simp)
  rw [List.length_cons] at h2
  rw [eachS,g74_3,bsm,wr_in (by omega) (by omega),hb117_loop l (i+1) (s+x) (fun n hn=>h n (by simp [hn])) (by omega) (by omega),sumL,Int.add_assoc]
theorem want_bd {b:HarnessBook} (ok:HaOk b) (k:Nat):0≤want b k∧want b k≤27:=by
 have h1:=sum_bd (wlS (baldL b) k b.Needs 0) (wl_bd _ _ _ _ (fun l hl=>(ok.nd l hl).2))
 have h2:=wl_len (baldL b) k b.Needs 0
 have h3:=ok.n3
 unfold want
 omega
theorem hb105_loop {b:HarnessBook} (ok:HaOk b) {m:List (Harness_want×Int)} (hm:NdOk b m) {k:Nat} (hk:k<b.Stock.length) (bald:List Int):∀ (ls:List (List Int)) (h:Nat) (acc:List Int),(∀ (j:Nat) l,ls[j]?=some l→b.Needs[h+j]?=some l)→acc.length+ls.length≤1000 →
  eachS (g69_3 b bald m (k:Int)) ls (h:Int) acc=some (acc++wlS bald k ls h)
 | [],h,acc,hl,hn=>by rw [eachS,wlS,List.append_nil]
 | l::ls,h,acc,hl,hn=>by
  rw [List.length_cons] at hn
  have hs:=ok.s3
  have hx:b.Needs[h]?=some l:=hl 0 l rfl
  have hlt:h<b.Needs.length:=(List.getElem?_eq_some_iff.1 hx).1
  have e:(h:Int)+1=((h+1:Nat):Int):=by omega
  have ih:=fun acc ha=>hb105_loop ok hm hk bald ls (h+1) acc (fun j x hj=>by
   have:=hl (j+1) x hj
   rwa [show h+(j+1)=h+1+j by omega] at this) ha
  rw [eachS,g69_3,hb102,bsm]
  cases hc:decide ((h:Int)∈bald) with
  | true=>
   simp only [Bool.not_true,cond_false,bsm]
   rw [e,ih acc (by omega),wlS,hc]
   rfl
  | false=>
   obtain ⟨w,ew,hw⟩:=hb103 ok hm bald hlt
   have hv:w k=(l[k]?).getD 0:=by
    rw [hw,if_pos hk]
    unfold ndOf
    rw [Int.toNat_natCast,hx]
    simp
   simp only [Bool.not_false,cond_true]
   rw [ew,bsm,ixN_nat (by omega),bsm,appL_ok (by rw [List.length_append,List.length_singleton];omega),bsm,bsm]
   rw [e,ih _ (by rw [List.length_append,List.length_singleton];omega),wlS,hc,hv]
   simp
theorem hb105 {b:HarnessBook} (ok:HaOk b) {m:List (Harness_want×Int)} (hm:NdOk b m) {k:Nat} (hk:k<b.Stock.length):g69 b (baldL b) m (k:Int)=some (want b k):=by
 have h3:=ok.n3
 have h1:=wl_len (baldL b) k b.Needs 0
 unfold g69
 have:=hb105_loop ok hm hk (baldL b) b.Needs 0 [] (fun j l h=>by rwa [Nat.zero_add]) (by simp;omega)
 rw [show ((0:Nat):Int)=0 from rfl] at this
 rw [this,bsm,List.nil_append,g74,hb117_loop _ _ _ (wl_bd _ _ _ _ (fun l hl=>(ok.nd l hl).2)) (Int.le_refl 0) (by omega),Int.zero_add]
 rfl
theorem ceil_spec {n g:Int} (hn:0≤n) (hg:1≤g):0≤(n+g - 1).tdiv g∧(n+g - 1).tdiv g≤n∧n≤(n+g - 1).tdiv g*g∧((n+g - 1).tdiv g - 1)*g≤n - 1:=by
 rw [Int.tdiv_eq_ediv_of_nonneg (by omega)]
 have h1:(n+g - 1) / g*g≤n+g - 1:=Int.ediv_mul_le _ (by omega)
 have h2:n+g - 1<((n+g - 1) / g+1)*g:=Int.lt_ediv_add_one_mul_self _ (by omega)
 have h0:0≤(n+g - 1) / g:=Int.ediv_nonneg (by omega) (by omega)
 generalize (n+g - 1) / g=q at *
 rw [Int.add_mul,Int.one_mul] at h2
 refine ⟨h0,?_,by omega,by rw [Int.sub_mul,Int.one_mul];omega⟩
 by_cases hq:q≤n
 ·exact hq
 ·exfalso
  have h3:(n+1)*g≤q*g:=Int.mul_le_mul_of_nonneg_right (by omega) (by omega)
  have h4:n*1≤n*g:=Int.mul_le_mul_of_nonneg_left (by omega) hn
  rw [Int.add_mul,Int.one_mul] at h3
  omega
def lowOf (b:HarnessBook) (k:Nat):Int:=match b.Stock[k]? with | some s=>s.Low | none=>0
def highOf (b:HarnessBook) (k:Nat):Int:=match b.Stock[k]? with | some s=>s.High | none=>0
theorem st_bd {b:HarnessBook} (ok:HaOk b) (k:Nat):0≤lowOf b k∧lowOf b k≤highOf b k∧highOf b k≤40:=by
 unfold lowOf highOf
 cases h:b.Stock[k]? with
 | none=>simp
 | some s=>have:=ok.st s (List.mem_of_getElem? h);simp only;omega
def packs (b:HarnessBook) (k:Nat):Int:=(max 0 (want b k - lowOf b k)+(b.Pack - b.Bad) - 1).tdiv (b.Pack - b.Bad)
theorem packs_spec {b:HarnessBook} (ok:HaOk b) (k:Nat):0≤packs b k∧packs b k≤27∧max 0 (want b k - lowOf b k)≤packs b k*(b.Pack - b.Bad)∧(packs b k - 1)*(b.Pack - b.Bad)≤max 0 (want b k - lowOf b k) - 1:=by
 have h1:=want_bd ok k
 have h2:=st_bd ok k
 have h3:=ok.pack
 have h4:=ok.bad
 obtain ⟨a,c,d,e⟩:=ceil_spec (n:=max 0 (want b k - lowOf b k)) (g:=b.Pack - b.Bad) (by omega) (by omega)
 exact ⟨a,by unfold packs;omega,d,e⟩
theorem hb77a {b:HarnessBook} (ok:HaOk b) {m:List (Harness_want×Int)} (hm:NdOk b m) {k:Nat} (hk:k<b.Stock.length):g49 b (baldL b) m (k:Int)=some (max 0 (want b k - lowOf b k)):=by
 have h1:=want_bd ok k
 have h2:=st_bd ok k
 have h:b.Stock[k]?=some b.Stock[k]:=List.getElem?_eq_getElem hk
 unfold g49
 have el:b.Stock[k].Low=lowOf b k:=by unfold lowOf;rw [h]
 rw [hb105 ok hm hk,bsm,ixL_nat,h,bsm,g71,bsm,el,wr_in (by omega) (by omega)]
theorem hb77 {b:HarnessBook} (ok:HaOk b) {m:List (Harness_want×Int)} (hm:NdOk b m) {k:Nat} (hk:k<b.Stock.length):g49a b (baldL b) m (k:Int)=some (max 0 (want b k - highOf b k)):=by
 have h1:=want_bd ok k
 have h2:=st_bd ok k
 have h:b.Stock[k]?=some b.Stock[k]:=List.getElem?_eq_getElem hk
 unfold g49a
 have el:b.Stock[k].High=highOf b k:=by unfold highOf;rw [h]
 rw [hb105 ok hm hk,bsm,ixL_nat,h,bsm,g70,bsm,el,wr_in (by omega) (by omega)]
theorem hb82 {b:HarnessBook} (ok:HaOk b) {m:List (Harness_want×Int)} (hm:NdOk b m) {k:Nat} (hk:k<b.Stock.length):g38 b (baldL b) m (k:Int)=some (packs b k):=by
 have h1:=want_bd ok k
 have h2:=st_bd ok k
 have h3:=ok.pack
 have h4:=ok.bad
 have h5:=packs_spec ok k
 have e:wr (b.Pack - b.Bad)=b.Pack - b.Bad:=wr_in (by omega) (by omega)
 unfold g38 g51
 rw [bsm,hb77a ok hm hk,bsm,e,must_t (by simp;omega),bsm,wr_in (n:=max 0 (want b k - lowOf b k)+(b.Pack - b.Bad)) (by omega) (by omega),wr_in (n:=max 0 (want b k - lowOf b k)+(b.Pack - b.Bad) - 1) (by omega) (by omega)]
 rw [show wr ((max 0 (want b k - lowOf b k)+(b.Pack - b.Bad) - 1).tdiv (b.Pack - b.Bad))=packs b k from wr_in (by unfold packs at h5;omega) (by unfold packs at h5;omega)]
theorem hb27 {b:HarnessBook} (ok:HaOk b):∃ L,g10 b=some (L,0)∧L.length=b.Stock.length∧∀ k:Nat,k<b.Stock.length→L[k]?=some (packs b k):=by
 obtain ⟨m,e,hm⟩:=hb59 ok
 have hs:=ok.s3
 obtain ⟨L,eL,h1,h2⟩:=eachS_inv (f:=g10_11 b (baldL b) m) (fun n l=>l.length=n∧∀ k:Nat,k<n→l[k]?=some (packs b k)) b.Stock 0 [] ⟨rfl,fun k h=>by omega⟩ (fun j s l hj hx hl=>by
  rw [Nat.sub_zero] at hx
  have hlt:j<b.Stock.length:=(List.getElem?_eq_some_iff.1 hx).1
  refine ⟨l++[packs b j],?_,by rw [List.length_append,hl.1];rfl,fun k hk=>?_⟩
  ·unfold g10_11
   rw [hb82 ok hm hlt,bsm,appL_ok (by rw [List.length_append,List.length_singleton,hl.1];omega)]
   rfl
  ·by_cases e:k<j
   ·rw [List.getElem?_append_left (by omega)];exact hl.2 k e
   ·have:k=j:=by omega
    subst this
    rw [List.getElem?_append_right (by omega),hl.1,Nat.sub_self];rfl)
 refine ⟨L,?_,by omega,fun k hk=>h2 k (by omega)⟩
 unfold g10
 rw [e,bsm]
 simp only [ne_eq,not_true_eq_false,decide_false,cond_false]
 rw [must_t (by simp;omega),bsm]
 rw [show ((0:Nat):Int)=0 from rfl] at eL
 rw [eL,bsm,slcL_all,bsm]
theorem hb76 (b:HarnessBook) (ok:HaOk b) (n:Int):g48 b n=some (rg n 0 ((b.Stock.length:Int) - 1)):=by
 have h1:=ok.s3
 unfold g48
 rw [hb68,bsm,wr_in (by omega) (by omega)]
def overLo (b:HarnessBook) (k:Nat):Int:=lowOf b k+packs b k*(b.Pack - b.Bad) - want b k
def overHi (b:HarnessBook) (k:Nat):Int:=highOf b k+packs b k*b.Pack - want b k
theorem mul_bd {q g:Int} (h1:0≤q) (h2:q≤27) (h3:0≤g) (h4:g≤12):0≤q*g∧q*g≤324:=by
 have a:=Int.mul_nonneg h1 h3
 have b:q*g≤27*g:=Int.mul_le_mul_of_nonneg_right h2 h3
 omega
theorem hb155 {b:HarnessBook} (ok:HaOk b) {m:List (Harness_want×Int)} (hm:NdOk b m) {k:Nat} (hk:k<b.Stock.length):g93 b (baldL b) m (k:Int)=some (overLo b k):=by
 have h1:=want_bd ok k
 have h2:=st_bd ok k
 have h3:=ok.pack
 have h4:=ok.bad
 have h5:=packs_spec ok k
 have m1:=mul_bd h5.1 h5.2.1 (show 0≤b.Pack - b.Bad by omega) (by omega)
 have h:b.Stock[k]?=some b.Stock[k]:=List.getElem?_eq_getElem hk
 have e:wr (b.Pack - b.Bad)=b.Pack - b.Bad:=wr_in (by omega) (by omega)
 have el:b.Stock[k].Low=lowOf b k:=by unfold lowOf;rw [h]
 unfold g93 g51
 rw [bsm,ixL_nat,h,bsm,g71,bsm,hb82 ok hm hk,bsm,hb105 ok hm hk,bsm,e,el,wr_in (n:=packs b k*(b.Pack - b.Bad)) (by omega) (by omega),wr_in (n:=lowOf b k+packs b k*(b.Pack - b.Bad)) (by omega) (by omega),wr_in (by omega) (by omega)]
 rfl
theorem hb156 {b:HarnessBook} (ok:HaOk b) {m:List (Harness_want×Int)} (hm:NdOk b m) {k:Nat} (hk:k<b.Stock.length):g94 b (baldL b) m (k:Int)=some (overHi b k):=by
 have h1:=want_bd ok k
 have h2:=st_bd ok k
 have h3:=ok.pack
 have h5:=packs_spec ok k
 have m1:=mul_bd h5.1 h5.2.1 (show 0≤b.Pack by omega) (by omega)
 have h:b.Stock[k]?=some b.Stock[k]:=List.getElem?_eq_getElem hk
 have el:b.Stock[k].High=highOf b k:=by unfold highOf;rw [h]
 unfold g94 g50
 rw [bsm,ixL_nat,h,bsm,g70,bsm,hb82 ok hm hk,bsm,hb105 ok hm hk,bsm,el,wr_in (n:=packs b k*b.Pack) (by omega) (by omega),wr_in (n:=highOf b k+packs b k*b.Pack) (by omega) (by omega),wr_in (by omega) (by omega)]
 rfl
theorem hb29 {b:HarnessBook} (ok:HaOk b) {k:Nat} (hk:k<b.Stock.length):g21 b (k:Int)=some (⟨overLo b k,overHi b k⟩,0):=by
 obtain ⟨m,e,hm⟩:=hb59 ok
 unfold g21
 rw [hb76 b ok,rg_iff.2 (by omega),bsm,e,bsm]
 simp only [ne_eq,not_true_eq_false,decide_false,cond_false]
 rw [hb155 ok hm hk,bsm,hb156 ok hm hk,bsm]
end Go.Proofs.YthcpnbeikdhlkaaDoor
namespace Go.Proofs.YthcpnbeikdhlkaaDoor
open Go Go.Abs Go.Proofs.Tt
theorem hb25 {b:HarnessBook} (ok:HaOk b) {k:Nat} (hk:k<b.Stock.length):g20 b (k:Int)=some (⟨max 0 (want b k - highOf b k),max 0 (want b k - lowOf b k)⟩,0):=by
 obtain ⟨m,e,hm⟩:=hb59 ok
 unfold g20
 rw [hb76 b ok,rg_iff.2 (by omega),bsm,e,bsm]
 simp only [ne_eq,not_true_eq_false,decide_false,cond_false]
 unfold g50 g51
 rw [bsm,hb77 ok hm hk,bsm,bsm,hb77a ok hm hk,bsm]
end Go.Proofs.YthcpnbeikdhlkaaDoor
namespace Go.Proofs.YthcpnbeikdhlkaaDoor
open Go Go.Abs Go.Proofs.Tt
def packsL (b:HarnessBook):List Int:=(List.range b.Stock.length).map fun (k:Nat)=>packs b k
theorem packsL_get (b:HarnessBook) {k:Nat} (h:k<b.Stock.length):(packsL b)[k]?=some (packs b k):=by
 unfold packsL
 rw [List.getElem?_map,List.getElem?_range h];rfl
theorem hb27e {b:HarnessBook} (ok:HaOk b):g10 b=some (packsL b,0):=by
 obtain ⟨L,e,h1,h2⟩:=hb27 ok
 have:L=packsL b:=by
  refine List.ext_getElem? fun k=>?_
  by_cases hk:k<b.Stock.length
  ·rw [h2 k hk,packsL_get b hk]
  ·rw [List.getElem?_eq_none (by omega),List.getElem?_eq_none (by unfold packsL;simp;omega)]
 rw [e,this]
theorem hb17 (l:List Int) (hl:l.length<900):g15 l l=some true:=by
 have h0:∀ i,g15_4 l l (false,i)=some (.brk false):=fun i=>by simp [g15_4,bsm]
 have:=while_all (f:=g15_4 l l) (p:=fun _=>true) (xs:=l) hl h0 (by simp [g15_4,bsm]) (fun i x hx=>by
  have hi:i<l.length:=(List.getElem?_eq_some_iff.1 hx).1
  simp only [g15_4,cond_true,bsm,ixL_nat,hx]
  have:decide ((i:Int)<(l.length:Int))=true:=by simp [hi]
  rw [this,wr_nat (by omega)]
  simp) l.length 0 (by omega) 1000 (by omega)
 unfold g15
 rw [decide_eq_true rfl]
 rw [show ((0:Nat):Int)=0 from rfl] at this
 rw [this]
 simp [bsm]
end Go.Proofs.YthcpnbeikdhlkaaDoor
namespace Go.Proofs.YthcpnbeikdhlkaaDoor
open Go Go.Abs Go.Proofs.Tt
def arr (l:List Int):Nat→Int:=fun k=>(l[k]?).getD 0
theorem arr_nil:arrL [0,0,0]=arr []:=by
 funext k
 unfold arrL arr
 match k with
 | 0=>rfl
 | 1=>rfl
 | 2=>rfl
 | k+3=>rfl
theorem aset_arr (pre:List Int) (y:Int):aset (arr pre) pre.length y=arr (pre++[y]):=by
 funext k
 rw [aset_g]
 unfold arr
 by_cases h:k=pre.length
 ·subst h;rw [if_pos rfl,List.getElem?_append_right (Nat.le_refl _),Nat.sub_self];rfl
 ·rw [if_neg h]
  by_cases h2:k<pre.length
  ·rw [List.getElem?_append_left h2]
  ·rw [List.getElem?_eq_none (by omega),List.getElem?_eq_none (by simp;omega)]
theorem aset_arr2 (pre:List Int) (x y:Int):aset (arr (pre++[x])) pre.length y=arr (pre++[y]):=by
 funext k
 rw [← aset_arr,← aset_arr,aset_g,aset_g,aset_g]
 by_cases h:k=pre.length
 ·rw [if_pos h,if_pos h]
 ·rw [if_neg h,if_neg h,if_neg h]
def truL:List Span→List (List Int)
 | []=>[[]]
 | s::ss=>(List.range' 0 (s.High - s.Low+1).toNat).flatMap fun (n:Nat)=>(truL ss).map ((s.Low+(n:Int))::·)
theorem foldl_flatMap {α β S:Type} (f:S→β→S) (g:α→List β):∀ (l:List α) (s:S),(l.flatMap g).foldl f s=l.foldl (fun s a=>(g a).foldl f s) s
 | [],s=>rfl
 | a::l,s=>by rw [List.flatMap_cons,List.foldl_append,List.foldl_cons,foldl_flatMap f g l]
theorem hb100_for {S V:Type} (emb:V→S) (step:V→List Int→V) {rec_:(Nat→Int)→Int→HarnessBook→(List Int)→(List (Harness_want×Int))→S→Option (Bool×S)} {b:HarnessBook} {bald:List Int} {m:List (Harness_want×Int)} {s0:Span} {pre:List Int} (hp:pre.length<3) (hs:0≤s0.Low∧s0.Low≤s0.High∧s0.High≤40) (M:Int→List (List Int))
  (IH:∀ (y:Int) v,s0.Low≤y→y≤s0.High→rec_ (arr (pre++[y])) ((pre.length:Int)+1) b bald m (emb v)=some (true,emb ((M y).foldl step v))) :
  ∀ (n i:Nat) (v:V) (p:Nat→Int),(∀ y,aset p pre.length y=arr (pre++[y]))→i+n=(s0.High - s0.Low+1).toNat →
   ∃ p',forC (g65_10 rec_ (pre.length:Int) b bald m s0) n (i:Int) (emb v,p)=some (.next (emb ((List.range' i n).foldl (fun v (j:Nat)=>(M (s0.Low+(j:Int))).foldl step v) v),p'))
 | 0,i,v,p,hq,hn=>⟨p,rfl⟩
 | n+1,i,v,p,hq,hn=>by
  have e:(i:Int)+1=((i+1:Nat):Int):=by omega
  have hb:g65_10 rec_ (pre.length:Int) b bald m s0 (i:Int) (emb v,p)=some (.next (emb ((M (s0.Low+(i:Int))).foldl step v),arr (pre++[s0.Low+(i:Int)]))):=by
   unfold g65_10
   simp only
   rw [ixN_nat hp,bsm,wr_in (n:=s0.Low+(i:Int)) (by omega) (by omega),hq,wr_in (n:=(pre.length:Int)+1) (by omega) (by omega),IH _ _ (by omega) (by omega),bsm]
   rfl
  obtain ⟨p',h'⟩:=hb100_for emb step hp hs M IH n (i+1) ((M (s0.Low+(i:Int))).foldl step v) (arr (pre++[s0.Low+(i:Int)])) (fun y=>aset_arr2 pre _ y) (by omega)
  refine ⟨p',?_⟩
  rw [forC,hb,bsm]
  simp only
  rw [e,h',List.range'_succ,List.foldl_cons]
theorem hb100 {S V:Type} (c:(Nat→Int)→S→Option (S×Bool)) (emb:V→S) (step:V→List Int→V) {b:HarnessBook} (ok:HaOk b) (bald:List Int) (m:List (Harness_want×Int)):∀ (ss:List Span) (pre:List Int) (n:Nat) (v:V),pre.length+ss.length=b.Stock.length→(∀ (j:Nat) s,ss[j]?=some s→b.Stock[pre.length+j]?=some s)→ss.length+1≤n →
  (∀ t,t∈(truL ss).map (pre++·)→∀ v,c (arr t) (emb v)=some (emb (step v t),true))→g65 c n (arr pre) (pre.length:Int) b bald m (emb v)=some (true,emb (((truL ss).map (pre++·)).foldl step v))
 | ss,pre,0,v,hl,hs,hn,hc=>by omega
 | [],pre,n+1,v,hl,hs,hn,hc=>by
  rw [g65]
  rw [decide_eq_true (by simp only [List.length_nil] at hl;omega),cond_true,hc pre (by simp [truL]),bsm]
  simp [truL]
 | s0::ss,pre,n+1,v,hl,hs,hn,hc=>by
  rw [List.length_cons] at hl hn
  have h3:=ok.s3
  have hx:b.Stock[pre.length]?=some s0:=hs 0 s0 rfl
  have hb:=ok.st s0 (List.mem_of_getElem? hx)
  have hmem:∀ y,s0.Low≤y→y≤s0.High→∀ t,t∈(truL ss).map ((pre++[y])++·)→t∈(truL (s0::ss)).map (pre++·):=fun y h1 h2 t ht=>by
   obtain ⟨u,hu,rfl⟩:=List.mem_map.1 ht
   refine List.mem_map.2 ⟨y::u,?_,by simp⟩
   unfold truL
   refine List.mem_flatMap.2 ⟨(y - s0.Low).toNat,?_,?_⟩
   ·rw [List.mem_range'_1];omega
   ·rw [show s0.Low+((y - s0.Low).toNat:Int)=y by omega]
    exact List.mem_map.2 ⟨u,hu,rfl⟩
  have IH:=fun (y:Int) (v:V) (h1:s0.Low≤y) (h2:y≤s0.High)=>hb100 c emb step ok bald m ss (pre++[y]) n v (by simp;omega) (fun j s hj=>by
   have:=hs (j+1) s hj
   rw [List.length_append,List.length_singleton]
   rwa [show pre.length+1+j=pre.length+(j+1) by omega]) (by omega) (fun t ht=>hc t (hmem y h1 h2 t ht))
  obtain ⟨p',hf⟩:=hb100_for emb step (rec_:=g65 c n) (b:=b) (bald:=bald) (m:=m) (s0:=s0) (pre:=pre) (by omega) ⟨hb.1,hb.2.1,hb.2.2.1⟩ (fun y=>(truL ss).map ((pre++[y])++·)) (fun y v h1 h2=>by
   have:=IH y v h1 h2
   rw [List.length_append,List.length_singleton] at this
   rw [show ((pre.length:Int)+1)=((pre.length+1:Nat):Int) by omega]
   exact this) (s0.High - s0.Low+1).toNat 0 v (arr pre) (fun y=>aset_arr pre y) (by omega)
  rw [g65]
  rw [decide_eq_false (by omega),cond_false,ixL_nat,hx,bsm,wr_in (n:=s0.High - s0.Low) (by omega) (by omega),wr_in (n:=s0.High - s0.Low+1) (by omega) (by omega),Int.sub_zero]
  rw [show ((0:Nat):Int)=0 from rfl] at hf
  rw [hf]
  show some (true,_)=_
  congr 3
  rw [truL,List.map_flatMap,foldl_flatMap]
  congr 1
  funext v j
  rw [List.map_map]
  congr 2
  funext u
  simp
theorem hb99 {S V:Type} (c:(Nat→Int)→S→Option (S×Bool)) (emb:V→S) (step:V→List Int→V) {b:HarnessBook} (ok:HaOk b) (bald:List Int) (m:List (Harness_want×Int)) (v:V) (hc:∀ t,t∈truL b.Stock→∀ v,c (arr t) (emb v)=some (emb (step v t),true)):g64 c b bald m (emb v)=some (emb ((truL b.Stock).foldl step v)):=by
 have h3:=ok.s3
 have e:(truL b.Stock).map (([]:List Int)++·)=truL b.Stock:=by simp
 have:=hb100 c emb step ok bald m b.Stock [] 1000 v (by simp) (fun j s hj=>by simpa using hj) (by omega) (fun t ht=>by rw [e] at ht;exact hc t ht)
 rw [e] at this
 unfold g64 g66
 rw [bsm,arr_nil]
 rw [show (([]:List Int).length:Int)=0 from rfl] at this
 rw [this,bsm]
theorem truL_len:∀ (ss:List Span),(∀ s,s∈ss→s.Low≤s.High∧s.High - s.Low≤4)→1≤(truL ss).length∧(truL ss).length≤5 ^ ss.length
 | [],h=>⟨Nat.le_refl _,Nat.le_refl _⟩
 | s::ss,h=>by
  obtain ⟨h1,h2⟩:=truL_len ss (fun x hx=>h x (by simp [hx]))
  have hs:=h s (by simp)
  have e:(truL (s::ss)).length=(s.High - s.Low+1).toNat*(truL ss).length:=by
   rw [truL,List.length_flatMap]
   simp only [List.length_map]
   rw [List.map_const',List.sum_replicate_nat,List.length_range']
  rw [e,List.length_cons,Nat.pow_succ,Nat.mul_comm (5 ^ ss.length)]
  obtain ⟨n,hn⟩:∃ n,(s.High - s.Low+1).toNat=n+1:=⟨(s.High - s.Low).toNat,by omega⟩
  rw [hn]
  refine ⟨?_,Nat.mul_le_mul (by omega) h2⟩
  have:=Nat.le_mul_of_pos_left (truL ss).length (show 0<n+1 by omega)
  omega
theorem truL_mem:∀ (ss:List Span) (t:List Int),t∈truL ss→t.length=ss.length∧∀ (k:Nat) s,ss[k]?=some s→∃ x,t[k]?=some x∧s.Low≤x∧x≤s.High
 | [],t,ht=>by
  simp only [truL,List.mem_singleton] at ht
  subst ht
  exact ⟨rfl,fun k s h=>by simp at h⟩
 | s0::ss,t,ht=>by
  unfold truL at ht
  obtain ⟨n,hn,ht⟩:=List.mem_flatMap.1 ht
  obtain ⟨u,hu,rfl⟩:=List.mem_map.1 ht
  obtain ⟨h1,h2⟩:=truL_mem ss u hu
  rw [List.mem_range'_1] at hn
  refine ⟨by simp [h1],fun k s hk=>?_⟩
  cases k with
  | zero=>
   simp at hk;subst hk
   exact ⟨s0.Low+(n:Int),rfl,by omega,by omega⟩
  | succ k=>simpa using h2 k s (by simpa using hk)
end Go.Proofs.YthcpnbeikdhlkaaDoor
namespace Go.Proofs.YthcpnbeikdhlkaaDoor
open Go Go.Abs Go.Proofs.Tt
def rowOf (b:HarnessBook) (h:Nat):List Int:=(b.Needs[h]?).getD []
def leAll (n:Nat) (row left:List Int):Bool:=(List.range' 0 n).all fun (k:Nat)=>decide (arr row k≤arr left k)
def midA (n j:Nat) (left row:List Int):List Int:=(List.range n).map fun (k:Nat)=>bif decide (k<j) then arr left k - arr row k else arr left k
def subA (n:Nat) (left row:List Int):List Int:=midA n n left row
def canS (b:HarnessBook) (left:List Int) (h:Nat):Bool:=!decide ((h:Int)∈baldL b)&&leAll b.Stock.length (rowOf b h) left
def dayStep (b:HarnessBook) (s:Int×List Int) (h:Nat):Int×List Int:=bif canS b s.2 h then (bOr s.1 (shl64 1 (h:Int)),subA b.Stock.length s.2 (rowOf b h)) else s
def dayS (b:HarnessBook) (order:List Nat) (t:List Int):Int:=(order.foldl (dayStep b) (0,t)).1
structure LeftOk (b:HarnessBook) (l:List Int):Prop where
 len:l.length=b.Stock.length
 bd:∀ k:Nat,0≤arr l k∧arr l k≤1000
theorem midA_len (n j:Nat) (left row:List Int):(midA n j left row).length=n:=by simp [midA]
theorem midA_get {n j k:Nat} (left row:List Int) (h:k<n):(midA n j left row)[k]?=some (bif decide (k<j) then arr left k - arr row k else arr left k):=by
 unfold midA
 rw [List.getElem?_map,List.getElem?_range h];rfl
theorem arr_mid {n j k:Nat} (left row:List Int) (h:k<n):arr (midA n j left row) k=bif decide (k<j) then arr left k - arr row k else arr left k:=by
 show ((midA n j left row)[k]?).getD 0=_
 rw [midA_get left row h];rfl
theorem arr_out {l:List Int} {k:Nat} (h:l.length≤k):arr l k=0:=by
 unfold arr
 rw [List.getElem?_eq_none h];rfl
theorem arr_in {l:List Int} {k:Nat} (h:k<l.length):l[k]?=some (arr l k):=by
 unfold arr
 rw [List.getElem?_eq_getElem h];rfl
theorem leAll_iff {n:Nat} {row left:List Int}:leAll n row left=true↔∀ k,k<n→arr row k≤arr left k:=by
 unfold leAll
 rw [List.all_eq_true]
 constructor
 ·intro h k hk
  have:=h k (by rw [List.mem_range'_1];omega)
  exact of_decide_eq_true this
 ·intro h k hk
  rw [List.mem_range'_1] at hk
  exact decide_eq_true (h k (by omega))
theorem row_bd {b:HarnessBook} (ok:HaOk b) {h:Nat} (hh:h<b.Needs.length):(rowOf b h).length=b.Stock.length∧∀ k,0≤arr (rowOf b h) k∧arr (rowOf b h) k≤9:=by
 have hx:b.Needs[h]?=some b.Needs[h]:=List.getElem?_eq_getElem hh
 have:=ok.nd _ (List.mem_of_getElem? hx)
 unfold rowOf
 rw [hx]
 refine ⟨this.1,fun k=>?_⟩
 show 0≤arr b.Needs[h] k∧arr b.Needs[h] k≤9
 by_cases hk:k<b.Needs[h].length
 ·have h2:=arr_in hk
  exact this.2 _ (List.mem_of_getElem? h2)
 ·rw [arr_out (by omega)];decide
theorem dayStep_ok {b:HarnessBook} (ok:HaOk b) {h:Nat} (hh:h<b.Needs.length) {s:Int×List Int} (hs:LeftOk b s.2):LeftOk b (dayStep b s h).2:=by
 unfold dayStep
 cases hc:canS b s.2 h with
 | false=>exact hs
 | true=>
  unfold canS at hc
  rw [Bool.and_eq_true] at hc
  have h1:=leAll_iff.1 hc.2
  have h2:=(row_bd ok hh).2
  refine ⟨midA_len _ _ _ _,fun k=>?_⟩
  show 0≤arr (subA b.Stock.length s.2 (rowOf b h)) k∧arr (subA b.Stock.length s.2 (rowOf b h)) k≤1000
  unfold subA
  by_cases hk:k<b.Stock.length
  ·rw [arr_mid _ _ hk,decide_eq_true hk,cond_true]
   have:=h1 k hk
   have:=h2 k
   have:=hs.bd k
   omega
  ·rw [arr_out (by rw [midA_len];omega)];decide
theorem tru_left {b:HarnessBook} (ok:HaOk b) {t:List Int} (ht:t∈truL b.Stock):LeftOk b t:=by
 obtain ⟨h1,h2⟩:=truL_mem _ _ ht
 refine ⟨h1,fun k=>?_⟩
 by_cases hk:k<b.Stock.length
 ·have hs:b.Stock[k]?=some b.Stock[k]:=List.getElem?_eq_getElem hk
  obtain ⟨x,hx,a1,a2⟩:=h2 k _ hs
  have:=ok.st _ (List.mem_of_getElem? hs)
  unfold arr
  rw [hx]
  show 0≤x∧x≤1000
  omega
 ·rw [arr_out (by omega)];decide
theorem eachC_idx {α R:Type} {f:Int→α→Unit→Option (Ctl Unit R)} (p:Nat→Bool) (r:R):∀ (xs:List α) (i:Nat),(∀ (j:Nat) x,i≤j→j<i+xs.length→f (j:Int) x ()=some (bif p j then .next () else .brk r))→eachC f xs (i:Int) ()=some (bif (List.range' i xs.length).all p then .next () else .brk r)
 | [],i,h=>rfl
 | x::xs,i,h=>by
  rw [eachC,h i x (Nat.le_refl _) (by simp),bsm,List.length_cons,List.range'_succ,List.all_cons]
  cases hp:p i with
  | false=>rfl
  | true=>
   simp only [cond_true,Bool.true_and]
   rw [show (i:Int)+1=((i+1:Nat):Int) by omega]
   exact eachC_idx p r xs (i+1) (fun j y hj hl=>h j y (by omega) (by rw [List.length_cons];omega))
theorem hb73_4 {b:HarnessBook} (ok:HaOk b) {m:List (Harness_want×Int)} (hm:NdOk b m) {h:Nat} (hh:h<b.Needs.length) {set_:Int} {left:List Int} (hl:LeftOk b left) (i:Int) :
  g47_4 b (baldL b) m i (h:Int) (set_,arr left)=some ((dayStep b (set_,left) h).1,arr (dayStep b (set_,left) h).2):=by
 have h3:=ok.s3
 have hrow:=row_bd ok hh
 unfold g47_4 dayStep canS
 simp only
 rw [hb102,bsm]
 cases hc:decide ((h:Int)∈baldL b) with
 | true=>rfl
 | false=>
  obtain ⟨w,ew,hw⟩:=hb103 ok hm (baldL b) hh
  have hwr:∀ k:Nat,w k=arr (rowOf b h) k:=fun k=>by
   rw [hw]
   have hx:b.Needs[h]?=some b.Needs[h]:=List.getElem?_eq_getElem hh
   by_cases hk:k<b.Stock.length
   ·rw [if_pos hk]
    unfold ndOf rowOf arr
    rw [Int.toNat_natCast,hx,Int.toNat_natCast]
    rfl
   ·rw [if_neg hk,arr_out (by omega)]
  have hwe:w=arr (rowOf b h):=funext hwr
  subst hwe
  simp only [Bool.not_false,Bool.not_true,cond_false,Bool.true_and]
  rw [ew,bsm]
  have hE:=eachC_idx (f:=g47_17 set_ (arr left) (arr (rowOf b h))) (fun k=>decide (arr (rowOf b h) k≤arr left k)) (set_,arr left) b.Stock 0 (fun j x hj hlt=>by
   have hj3:j<3:=by omega
   unfold g47_17 g66
   rw [bsm]
   have hn:=hrow.2 j
   have hb:=hl.bd j
   cases hz:(true != (((arr (rowOf b h) 0)==(arrL [0,0,0] 0))&&(((arr (rowOf b h) 1)==(arrL [0,0,0] 1))&&(((arr (rowOf b h) 2)==(arrL [0,0,0] 2))&&true)))) with
   | true=>
    simp only [cond_true]
    rw [ixN_nat hj3,bsm,bsm]
    by_cases hlt:arr left j<arr (rowOf b h) j
    ·rw [decide_eq_true hlt,decide_eq_false (by omega)];rfl
    ·rw [decide_eq_false hlt,decide_eq_true (by omega)];rfl
   | false=>
    simp only [cond_false]
    have h0:arr (rowOf b h) j=0:=by
     simp only [bne_eq_false_iff_eq,Bool.true_eq,Bool.and_eq_true,beq_iff_eq] at hz
     obtain ⟨z0,z1,z2,_⟩:=hz
     match j,hj3 with
     | 0,_=>exact z0
     | 1,_=>exact z1
     | 2,_=>exact z2
    rw [h0,decide_eq_true hb.1];rfl)
  rw [show ((0:Nat):Int)=0 from rfl] at hE
  rw [hE]
  show ((bindC (some (bif leAll b.Stock.length (rowOf b h) left then _ else _)) _).bind _)=_
  cases hle:leAll b.Stock.length (rowOf b h) left with
  | false=>rfl
  | true=>
   have hs:=leAll_iff.1 hle
   simp only [cond_true,bindC]
   obtain ⟨p5,e5,h5⟩:=eachS_inv (f:=g47_31 (arr (rowOf b h))) (fun n p=>∀ k:Nat,p k=if k<n then arr left k - arr (rowOf b h) k else arr left k) b.Stock 0 (arr left) (fun k=>by rw [if_neg (by omega)]) (fun j x p hj hx hp=>by
    rw [Nat.sub_zero] at hx
    have hlt:j<b.Stock.length:=(List.getElem?_eq_some_iff.1 hx).1
    have hb:=hl.bd j
    have hn:=hrow.2 j
    refine ⟨aset p j (arr left j - arr (rowOf b h) j),?_,fun k=>?_⟩
    ·unfold g47_31
     rw [ixN_nat (by omega),bsm,bsm,bsm,hp j,if_neg (by omega),wr_in (by omega) (by omega)]
    ·rw [aset_g,hp]
     by_cases e:k=j
     ·subst e;rw [if_pos rfl,if_pos (by omega)]
     ·rw [if_neg e]
      by_cases e2:k<j
      ·rw [if_pos e2,if_pos (by omega)]
      ·rw [if_neg e2,if_neg (by omega)])
   have hp5:p5=arr (subA b.Stock.length left (rowOf b h)):=by
    funext k
    rw [h5,Nat.zero_add]
    unfold subA
    by_cases hk:k<b.Stock.length
    ·rw [if_pos hk,arr_mid _ _ hk,decide_eq_true hk];rfl
    ·rw [if_neg hk,arr_out (l:=left) (by rw [hl.len];omega),arr_out (by rw [midA_len];omega)]
   rw [show ((0:Nat):Int)=0 from rfl] at e5
   rw [e5,bsm,must_t (by simp),bsm,bsm,hp5]
theorem hb73 {b:HarnessBook} (ok:HaOk b) {m:List (Harness_want×Int)} (hm:NdOk b m) {order:List Nat} (ho:∀ h,h∈order→h<b.Needs.length) {t:List Int} (ht:LeftOk b t) :
  g47 b (baldL b) m (arr t) (order.map fun (h:Nat)=>(h:Int))=some (dayS b order t):=by
 have key:∀ (os:List Nat) (i:Int) (s:Int×List Int),(∀ h,h∈os→h<b.Needs.length)→LeftOk b s.2→eachS (g47_4 b (baldL b) m) (os.map fun (h:Nat)=>(h:Int)) i (s.1,arr s.2)=some ((os.foldl (dayStep b) s).1,arr (os.foldl (dayStep b) s).2):=by
  intro os
  induction os with
  | nil=>intro i s h1 h2;rfl
  | cons h os ih=>
   intro i s h1 h2
   rw [List.map_cons,eachS,hb73_4 ok hm (h1 h (by simp)) h2 i,bsm,ih (i+1) (dayStep b s h) (fun x hx=>h1 x (by simp [hx])) (dayStep_ok ok (h1 h (by simp)) h2)]
   rfl
 unfold g47
 rw [key order 0 (0,t) ho ht]
 rfl
end Go.Proofs.YthcpnbeikdhlkaaDoor
namespace Go.Proofs.YthcpnbeikdhlkaaDoor
open Go Go.Abs Go.Proofs.Tt
theorem factAnd:((List.range 8).all fun (x:Nat)=>(List.range 8).all fun (y:Nat)=>bAnd (x:Int) (y:Int)==((x &&& y:Nat):Int))=true:=by kernel_rfl
theorem factOr:((List.range 8).all fun (x:Nat)=>(List.range 8).all fun (y:Nat)=>bOr (x:Int) (y:Int)==((x ||| y:Nat):Int))=true:=by kernel_rfl
theorem factSh:((List.range 4).all fun (h:Nat)=>shl64 1 (h:Int)==((2 ^ h:Nat):Int))=true:=by kernel_rfl
theorem factAll:((List.range 4).all fun (n:Nat)=>g12 (wr (shl64 1 (n:Int) - 1)) (n:Int)==some ((List.range n).map fun (h:Nat)=>(h:Int)))=true:=by kernel_rfl
theorem factMask:((List.range 4).all fun (n:Nat)=>wr (shl64 1 (n:Int) - 1)==((2 ^ n - 1:Nat):Int))=true:=by kernel_rfl
theorem all1 {P:Nat→Bool} {N n:Nat} (h:((List.range N).all P)=true) (hn:n<N):P n=true:=by
 rw [List.all_eq_true] at h
 exact h n (List.mem_range.2 hn)
theorem fAnd {x y:Nat} (hx:x<8) (hy:y<8):bAnd (x:Int) (y:Int)=((x &&& y:Nat):Int):=by simpa using all1 (all1 factAnd hx) hy
theorem fOr {x y:Nat} (hx:x<8) (hy:y<8):bOr (x:Int) (y:Int)=((x ||| y:Nat):Int):=by simpa using all1 (all1 factOr hx) hy
theorem fSh {h:Nat} (hh:h<4):shl64 1 (h:Int)=((2 ^ h:Nat):Int):=by simpa using all1 factSh hh
theorem fAll {n:Nat} (h:n<4):g12 (wr (shl64 1 (n:Int) - 1)) (n:Int)=some ((List.range n).map fun (h:Nat)=>(h:Int)):=by simpa using all1 factAll h
theorem fMask {n:Nat} (h:n<4):wr (shl64 1 (n:Int) - 1)=((2 ^ n - 1:Nat):Int):=by simpa using all1 factMask h
theorem p8 {n:Nat} (h:n≤3):2 ^ n≤8:=pow_le' h
theorem dayStep_nat {b:HarnessBook} (ok:HaOk b) {h:Nat} (hh:h<b.Needs.length) {s:Int×List Int} {x:Nat} (hx:x<2 ^ b.Needs.length) (hs:s.1=(x:Int)):∃ y:Nat,y<2 ^ b.Needs.length∧(dayStep b s h).1=(y:Int):=by
 have h3:=ok.n3
 have h8:=p8 h3
 unfold dayStep
 cases canS b s.2 h with
 | false=>exact ⟨x,hx,hs⟩
 | true=>
  have h2:2 ^ h<2 ^ b.Needs.length:=Nat.pow_lt_pow_right (by decide) hh
  refine ⟨x ||| 2 ^ h,Nat.or_lt_two_pow hx h2,?_⟩
  simp only [cond_true]
  rw [hs,fSh (by omega),fOr (by omega) (by omega)]
theorem day_nat {b:HarnessBook} (ok:HaOk b):∀ (order:List Nat),(∀ h,h∈order→h<b.Needs.length)→∀ (s:Int×List Int) (x:Nat),x<2 ^ b.Needs.length→s.1=(x:Int)→∃ y:Nat,y<2 ^ b.Needs.length∧(order.foldl (dayStep b) s).1=(y:Int)
 | [],ho,s,x,hx,hs=>⟨x,hx,hs⟩
 | h::os,ho,s,x,hx,hs=>by
  obtain ⟨y,hy,e⟩:=dayStep_nat ok (ho h (by simp)) hx hs
  exact day_nat ok os (fun k hk=>ho k (by simp [hk])) _ y hy e
def dayN (b:HarnessBook) (order:List Nat) (t:List Int):Nat:=(dayS b order t).toNat
theorem dayN_ok {b:HarnessBook} (ok:HaOk b) {order:List Nat} (ho:∀ h,h∈order→h<b.Needs.length) (t:List Int):dayN b order t<2 ^ b.Needs.length∧dayS b order t=(dayN b order t:Int):=by
 obtain ⟨y,hy,e⟩:=day_nat ok order ho (0,t) 0 (Nat.two_pow_pos _) rfl
 have e':dayS b order t=(y:Int):=e
 unfold dayN
 rw [e']
 exact ⟨by simpa using hy,by simp⟩
def setsN (b:HarnessBook) (order:List Nat):List Nat:=(truL b.Stock).map (dayN b order)
def sureN (b:HarnessBook) (order:List Nat):Nat:=(setsN b order).foldl (· &&& ·) (2 ^ b.Needs.length - 1)
def perhN (b:HarnessBook) (order:List Nat):Nat:=(setsN b order).foldl (· ||| ·) 0
theorem sets_lt {b:HarnessBook} (ok:HaOk b) {order:List Nat} (ho:∀ h,h∈order→h<b.Needs.length) {s:Nat} (hs:s∈setsN b order):s<2 ^ b.Needs.length:=by
 obtain ⟨t,_,rfl⟩:=List.mem_map.1 hs
 exact (dayN_ok ok ho t).1
theorem and_lt:∀ (l:List Nat) (x N:Nat),x<2 ^ N→l.foldl (· &&& ·) x<2 ^ N
 | [],x,N,h=>h
 | y::l,x,N,h=>by rw [List.foldl_cons];exact and_lt l _ N (Nat.lt_of_le_of_lt Nat.and_le_left h)
theorem or_lt:∀ (l:List Nat) (x N:Nat),x<2 ^ N→(∀ y,y∈l→y<2 ^ N)→l.foldl (· ||| ·) x<2 ^ N
 | [],x,N,h,hl=>h
 | y::l,x,N,h,hl=>by rw [List.foldl_cons];exact or_lt l _ N (Nat.or_lt_two_pow h (hl y (by simp))) (fun z hz=>hl z (by simp [hz]))
theorem sure_lt (b:HarnessBook) (order:List Nat):sureN b order<2 ^ b.Needs.length:=and_lt _ _ _ (by have:=Nat.two_pow_pos b.Needs.length;omega)
theorem perh_lt {b:HarnessBook} (ok:HaOk b) {order:List Nat} (ho:∀ h,h∈order→h<b.Needs.length):perhN b order<2 ^ b.Needs.length:=or_lt _ _ _ (Nat.two_pow_pos _) (fun y hy=>sets_lt ok ho hy)
abbrev castL (l:List Nat):List Int:=l.map fun (h:Nat)=>(h:Int)
theorem hb60 {b:HarnessBook} (ok:HaOk b) {m:List (Harness_want×Int)} (hm:NdOk b m) {order:List Nat} (ho:∀ h,h∈order→h<b.Needs.length):g40 b (baldL b) m (castL order)=some ((sureN b order:Int),(perhN b order:Int)):=by
 have h3:=ok.n3
 have h8:=p8 h3
 have hc:∀ t,t∈truL b.Stock→∀ v:Int×Int,(fun a s=>rndC (g40_r6 b (baldL b) m (castL order)) a s) (arr t) (Ctl.next v:Ctl (Int×Int) Unit)=some (Ctl.next (bAnd v.1 (dayS b order t),bOr v.2 (dayS b order t)),true):=fun t ht v=>by
  obtain ⟨v1,v2⟩:=v
  simp only [rndC,g40_r6]
  rw [hb73 ok hm ho (tru_left ok ht)]
  rfl
 have h:=hb99 (fun a s=>rndC (g40_r6 b (baldL b) m (castL order)) a s) (Ctl.next:Int×Int→Ctl (Int×Int) Unit) (fun v t=>(bAnd v.1 (dayS b order t),bOr v.2 (dayS b order t))) ok (baldL b) m (wr (shl64 1 (b.Needs.length:Int) - 1),0) hc
 have key:∀ (ts:List (List Int)) (x y:Nat),x<2 ^ b.Needs.length→y<2 ^ b.Needs.length→ts.foldl (fun (v:Int×Int) t=>(bAnd v.1 (dayS b order t),bOr v.2 (dayS b order t))) ((x:Int),(y:Int))=((((ts.map (dayN b order)).foldl (· &&& ·) x:Nat):Int),(((ts.map (dayN b order)).foldl (· ||| ·) y:Nat):Int)):=by
  intro ts
  induction ts with
  | nil=>intro x y hx hy;rfl
  | cons t ts ih=>
   intro x y hx hy
   obtain ⟨d1,d2⟩:=dayN_ok ok ho t
   rw [List.foldl_cons,d2,fAnd (by omega) (by omega),fOr (by omega) (by omega),ih _ _ (Nat.lt_of_le_of_lt Nat.and_le_left hx) (Nat.or_lt_two_pow hy d1)]
   rfl
 unfold g40 g46
 rw [must_t (by simp),bsm,bsm]
 simp only
 rw [h,bsm,fMask (by omega)]
 have:=key (truL b.Stock) (2 ^ b.Needs.length - 1) 0 (by have:=Nat.two_pow_pos b.Needs.length;omega) (Nat.two_pow_pos _)
 rw [show ((0:Nat):Int)=0 from rfl] at this
 rw [this]
 rfl
theorem hb61 {b:HarnessBook} (ok:HaOk b) (bald:List Int) (m:List (Harness_want×Int)):g41 b bald m=some (castL (List.range b.Needs.length)):=by
 have h3:=ok.n3
 obtain ⟨l,e,hl⟩:=eachS_inv (f:=g41_3) (fun n l=>l=castL (List.range n)) b.Needs 0 [] rfl (fun j x l hj hx hl=>by
  rw [Nat.sub_zero] at hx
  have hlt:j<b.Needs.length:=(List.getElem?_eq_some_iff.1 hx).1
  refine ⟨l++[(j:Int)],?_,by rw [hl,List.range_succ,castL,castL,List.map_append];rfl⟩
  unfold g41_3
  rw [appL_ok (by rw [List.length_append,hl];simp;omega)]
  rfl)
 unfold g41
 rw [must_t (by simp;omega),bsm]
 rw [show ((0:Nat):Int)=0 from rfl] at e
 rw [e,bsm,hl,Nat.zero_add]
theorem eachS_forS {α S:Type} {f:Int→α→S→Option S} {g:Int→S→Option S} (h:∀ i x s,f i x s=g i s):∀ (xs:List α) (i:Int) (s:S),eachS f xs i s=forS g xs.length i s
 | [],i,s=>rfl
 | x::xs,i,s=>by
  rw [eachS,List.length_cons,forS,h]
  congr 1
  funext s'
  exact eachS_forS h xs (i+1) s'
theorem hb62_3 (set_:Int) (v:Int) (p:List Int) (l:List Int):g42_3 set_ v p l=g12_2 set_ v l:=by
 unfold g42_3 g12_2 g39
 cases must (decide (0≤v))<;>rfl
theorem hb62 {b:HarnessBook} (ok:HaOk b) (bald:List Int) (m:List (Harness_want×Int)) {s:Nat} (hs:s<2 ^ b.Needs.length):g42 b bald m (s:Int)=some (LT b.Needs.length s):=by
 have h3:=ok.n3
 have h:=f48 h3 hs
 unfold g12 at h
 rw [must_t (by simp;omega),bsm,Int.sub_zero,Int.toNat_natCast] at h
 have h':forS (g12_2 (s:Int)) b.Needs.length 0 ([]:List Int)=some (LT b.Needs.length s):=by
  cases hf:forS (g12_2 (s:Int)) b.Needs.length 0 ([]:List Int) with
  | none=>rw [hf] at h;cases h
  | some l=>rw [hf] at h;exact h
 unfold g42
 rw [must_t (by simp;omega),bsm,eachS_forS (hb62_3 (s:Int)),h',bsm,slcL_all,bsm]
theorem range_lt {n h:Nat} (hh:h∈List.range n):h<n:=List.mem_range.1 hh
theorem hb15 {b:HarnessBook} (ok:HaOk b):g13 b=some (LT b.Needs.length (sureN b (List.range b.Needs.length)),0):=by
 obtain ⟨m,e,hm⟩:=hb59 ok
 unfold g13
 rw [e,bsm]
 simp only [ne_eq,not_true_eq_false,decide_false,cond_false]
 rw [hb61 ok,bsm,hb60 ok hm (fun h=>range_lt),bsm]
 simp only
 rw [hb62 ok _ _ (sure_lt _ _),bsm]
theorem hb20 {b:HarnessBook} (ok:HaOk b):g18 b=some (LT b.Needs.length (perhN b (List.range b.Needs.length)),0):=by
 obtain ⟨m,e,hm⟩:=hb59 ok
 unfold g18
 rw [e,bsm]
 simp only [ne_eq,not_true_eq_false,decide_false,cond_false]
 rw [hb61 ok,bsm,hb60 ok hm (fun h=>range_lt),bsm]
 simp only
 rw [hb62 ok _ _ (perh_lt ok (fun h=>range_lt)),bsm]
def lenN (b:HarnessBook) (s:Nat):Int:=((LT b.Needs.length s).length:Int)
def manyN (b:HarnessBook):Int×Int:=(setsN b (List.range b.Needs.length)).foldl (fun v s=>(min v.1 (lenN b s),max v.2 (lenN b s))) ((b.Needs.length:Int),0)
theorem factLen:((List.range 4).all fun (n:Nat)=>(List.range (2 ^ n)).all fun (s:Nat)=>decide ((LT n s).length≤n))=true:=by kernel_rfl
theorem len_bd {b:HarnessBook} (ok:HaOk b) {s:Nat} (hs:s<2 ^ b.Needs.length):0≤lenN b s∧lenN b s≤(b.Needs.length:Int):=by
 have h3:=ok.n3
 have:=of_decide_eq_true (all1 (all1 factLen (show b.Needs.length<4 by omega)) hs)
 unfold lenN
 omega
theorem hb22 {b:HarnessBook} (ok:HaOk b):g19 b=some (⟨(manyN b).1,(manyN b).2⟩,0):=by
 obtain ⟨m,e,hm⟩:=hb59 ok
 have ho:∀ h,h∈List.range b.Needs.length→h<b.Needs.length:=fun h=>range_lt
 have hc:∀ t,t∈truL b.Stock→∀ v:Int×Int,(fun a s=>rndC (g19_r13 b (baldL b) m) a s) (arr t) (Ctl.next v:Ctl (Int×Int) Unit)=some (Ctl.next (min v.1 (lenN b (dayN b (List.range b.Needs.length) t)),max v.2 (lenN b (dayN b (List.range b.Needs.length) t))),true):=fun t ht v=>by
  obtain ⟨v1,v2⟩:=v
  obtain ⟨d1,d2⟩:=dayN_ok ok ho t
  simp only [rndC,g19_r13]
  rw [hb61 ok,bsm,hb73 ok hm ho (tru_left ok ht),bsm,d2,hb62 ok _ _ d1]
  rfl
 have h:=hb99 (fun a s=>rndC (g19_r13 b (baldL b) m) a s) (Ctl.next:Int×Int→Ctl (Int×Int) Unit) (fun v t=>(min v.1 (lenN b (dayN b (List.range b.Needs.length) t)),max v.2 (lenN b (dayN b (List.range b.Needs.length) t)))) ok (baldL b) m ((b.Needs.length:Int),0) hc
 unfold g19
 rw [e,bsm]
 simp only [ne_eq,not_true_eq_false,decide_false,cond_false]
 unfold g46
 rw [bsm]
 simp only
 rw [h,bsm]
 unfold manyN setsN
 rw [List.foldl_map]
theorem LT_len {b:HarnessBook} (ok:HaOk b) {s:Nat} (hs:s<2 ^ b.Needs.length):(LT b.Needs.length s).length<900:=by
 have:=len_bd ok hs
 have:=ok.n3
 unfold lenN at *
 omega
end Go.Proofs.YthcpnbeikdhlkaaDoor
namespace Go.Proofs.YthcpnbeikdhlkaaDoor
open Go Go.Abs Go.Proofs.Tt
theorem factBit:((List.range 4).all fun (n:Nat)=>(List.range (2 ^ n)).all fun (s:Nat)=>(List.range n).all fun (i:Nat)=>decide ((i:Int)∈LT n s)==s.testBit i)=true:=by kernel_rfl
theorem bit_mem {n s i:Nat} (hn:n≤3) (hs:s<2 ^ n) (hi:i<n):(i:Int)∈LT n s↔s.testBit i=true:=by
 have:=all1 (all1 (all1 factBit (show n<4 by omega)) hs) hi
 have e:=eq_of_beq this
 constructor
 ·intro h;rw [← e];exact decide_eq_true h
 ·intro h;rw [h] at e;exact of_decide_eq_true e
theorem and_bit:∀ (l:List Nat) (x i:Nat),(l.foldl (· &&& ·) x).testBit i=(x.testBit i&&l.all (·.testBit i))
 | [],x,i=>by simp
 | y::l,x,i=>by rw [List.foldl_cons,and_bit l,Nat.testBit_and,List.all_cons,Bool.and_assoc]
theorem or_bit:∀ (l:List Nat) (x i:Nat),(l.foldl (· ||| ·) x).testBit i=(x.testBit i||l.any (·.testBit i))
 | [],x,i=>by simp
 | y::l,x,i=>by rw [List.foldl_cons,or_bit l,Nat.testBit_or,List.any_cons,Bool.or_assoc]
theorem sure_bit {b:HarnessBook} {order:List Nat} {i:Nat} (hi:i<b.Needs.length):(sureN b order).testBit i=true↔∀ t,t∈truL b.Stock→(dayN b order t).testBit i=true:=by
 unfold sureN setsN
 rw [and_bit,Nat.testBit_two_pow_sub_one,decide_eq_true hi,Bool.true_and,List.all_eq_true]
 constructor
 ·intro h t ht
  exact h _ (List.mem_map.2 ⟨t,ht,rfl⟩)
 ·intro h s hs
  obtain ⟨t,ht,rfl⟩:=List.mem_map.1 hs
  exact h t ht
theorem perh_bit {b:HarnessBook} {order:List Nat} {i:Nat}:(perhN b order).testBit i=true↔∃ t,t∈truL b.Stock∧(dayN b order t).testBit i=true:=by
 unfold perhN setsN
 rw [or_bit,Nat.zero_testBit,Bool.false_or,List.any_eq_true]
 constructor
 ·rintro ⟨s,hs,h⟩
  obtain ⟨t,ht,rfl⟩:=List.mem_map.1 hs
  exact ⟨t,ht,h⟩
 ·rintro ⟨t,ht,h⟩
  exact ⟨_,List.mem_map.2 ⟨t,ht,rfl⟩,h⟩
def sureL (b:HarnessBook):List Int:=LT b.Needs.length (sureN b (List.range b.Needs.length))
def perhL (b:HarnessBook):List Int:=LT b.Needs.length (perhN b (List.range b.Needs.length))
theorem sure_mem {b:HarnessBook} (ok:HaOk b) {i:Nat} (hi:i<b.Needs.length):(i:Int)∈sureL b↔∀ t,t∈truL b.Stock→(dayN b (List.range b.Needs.length) t).testBit i=true:=by
 unfold sureL
 rw [bit_mem ok.n3 (sure_lt _ _) hi,sure_bit hi]
theorem perh_mem {b:HarnessBook} (ok:HaOk b) {i:Nat} (hi:i<b.Needs.length):(i:Int)∈perhL b↔∃ t,t∈truL b.Stock∧(dayN b (List.range b.Needs.length) t).testBit i=true:=by
 unfold perhL
 rw [bit_mem ok.n3 (perh_lt ok (fun h=>range_lt)) hi,perh_bit]
theorem truL_ne {b:HarnessBook} (ok:HaOk b):∃ t,t∈truL b.Stock:=by
 have h:=(truL_len b.Stock (fun s hs=>by have:=ok.st s hs;omega)).1
 match truL b.Stock,h with
 | t::ts,_=>exact ⟨t,by simp⟩
theorem hbFind (l:List Int) (i:Int):∃ j,g17 l i=some j∧decide (0≤j)=decide (i∈l)∧decide (j<0)=!decide (i∈l):=by
 obtain ⟨j,e,h⟩:=p96 l i
 refine ⟨j,e,decide_eq_decide.2 h,?_⟩
 rw [← decide_not,decide_eq_decide,← h];omega
def cntB (b:HarnessBook) (k:Nat) (c:Int):HarnessBook:=⟨b.Hair,b.Needs,setL b.Stock (k:Int) ⟨c,c⟩,b.Pack,b.Bad⟩
theorem cnt_get {b:HarnessBook} {k:Nat} (hk:k<b.Stock.length) (c:Int) (j:Nat):(cntB b k c).Stock[j]?=if j=k then some ⟨c,c⟩ else b.Stock[j]?:=by
 show (setL b.Stock (k:Int) ⟨c,c⟩)[j]?=_
 unfold setL
 rw [Int.toNat_natCast]
 by_cases h:k=j
 ·subst h;rw [List.getElem?_set_self hk,if_pos rfl]
 ·rw [List.getElem?_set_ne h,if_neg (fun e=>h e.symm)]
theorem cnt_len (b:HarnessBook) (k:Nat) (c:Int):(cntB b k c).Stock.length=b.Stock.length:=by
 show (setL b.Stock (k:Int) ⟨c,c⟩).length=_
 unfold setL
 rw [List.length_set]
theorem cnt_ok {b:HarnessBook} (ok:HaOk b) {k:Nat} (hk:k<b.Stock.length) {c:Int} (h1:lowOf b k≤c) (h2:c≤highOf b k):HaOk (cntB b k c):=by
 have sb:=st_bd ok k
 refine ⟨ok.ok,by rw [cnt_len];exact ok.s1,by rw [cnt_len];exact ok.s3,ok.nl,ok.n3,ok.pack,ok.bad,fun s hs=>?_,fun l hl=>?_⟩
 ·obtain ⟨j,hj⟩:=List.getElem?_of_mem hs
  rw [cnt_get hk] at hj
  split at hj
  ·cases hj;simp only;omega
  ·exact ok.st s (List.mem_of_getElem? hj)
 ·rw [cnt_len];exact ok.nd l hl
theorem hb15' {b:HarnessBook} (ok:HaOk b):g13 b=some (sureL b,0):=hb15 ok
theorem hb20' {b:HarnessBook} (ok:HaOk b):g18 b=some (perhL b,0):=hb20 ok
end Go.Proofs.YthcpnbeikdhlkaaDoor
namespace Go.Proofs.YthcpnbeikdhlkaaDoor
open Go Go.Abs Go.Proofs.Tt
def stU (b:HarnessBook) (t:List Int) (i:Nat):Int×List Int:=(List.range i).foldl (dayStep b) (0,t)
theorem stU_succ (b:HarnessBook) (t:List Int) (i:Nat):stU b t (i+1)=dayStep b (stU b t i) i:=by
 unfold stU
 rw [List.range_succ,List.foldl_append];rfl
theorem stU_left {b:HarnessBook} (ok:HaOk b) {t:List Int} (ht:LeftOk b t):∀ i,i≤b.Needs.length→LeftOk b (stU b t i).2
 | 0,h=>ht
 | i+1,h=>by
  rw [stU_succ]
  exact dayStep_ok ok (by omega) (stU_left ok ht i (by omega))
theorem stU_bits {b:HarnessBook} (ok:HaOk b) {t:List Int} (ht:LeftOk b t):∀ m,m≤b.Needs.length→∃ x:Nat,x<2 ^ m∧(stU b t m).1=(x:Int)∧∀ i,i<m→x.testBit i=canS b (stU b t i).2 i
 | 0,h=>⟨0,by decide,rfl,fun i hi=>by omega⟩
 | m+1,h=>by
  have h3:=ok.n3
  obtain ⟨x,hx,e,hb⟩:=stU_bits ok ht m (by omega)
  have hxm:x.testBit m=false:=Nat.testBit_lt_two_pow hx
  have h2:2 ^ m<2 ^ (m+1):=Nat.pow_lt_pow_right (by decide) (by omega)
  have h8:2 ^ (m+1)≤8:=p8 (by omega)
  rw [stU_succ]
  unfold dayStep
  cases hc:canS b (stU b t m).2 m with
  | false=>
   refine ⟨x,by omega,e,fun i hi=>?_⟩
   by_cases him:i=m
   ·subst him;rw [hxm,hc]
   ·exact hb i (by omega)
  | true=>
   refine ⟨x ||| 2 ^ m,Nat.or_lt_two_pow (by omega) h2,?_,fun i hi=>?_⟩
   ·simp only [cond_true]
    rw [e,fSh (by omega),fOr (by omega) (by omega)]
   ·rw [Nat.testBit_or,Nat.testBit_two_pow]
    by_cases him:i=m
    ·subst him;rw [hxm,hc];simp
    ·rw [hb i (by omega),decide_eq_false (fun h=>him h.symm),Bool.or_false]
theorem day_bit {b:HarnessBook} (ok:HaOk b) {t:List Int} (ht:LeftOk b t) {i:Nat} (hi:i<b.Needs.length):(dayN b (List.range b.Needs.length) t).testBit i=canS b (stU b t i).2 i:=by
 obtain ⟨x,hx,e,hb⟩:=stU_bits ok ht b.Needs.length (Nat.le_refl _)
 have:dayN b (List.range b.Needs.length) t=x:=by
  show ((stU b t b.Needs.length).1).toNat=x
  rw [e];simp
 rw [this,hb i hi]
def noneQ (b:HarnessBook) (i:Nat):Bool:=(List.range' 0 b.Stock.length).all fun (k:Nat)=>decide (arr (rowOf b i) k=0)
theorem all_rng {n:Nat} {p:Nat→Bool}:(List.range' 0 n).all p=true↔∀ k,k<n→p k=true:=by
 rw [List.all_eq_true]
 constructor
 ·intro h k hk;exact h k (by rw [List.mem_range'_1];omega)
 ·intro h k hk;rw [List.mem_range'_1] at hk;exact h k (by omega)
theorem bald_no {b:HarnessBook} (ok:HaOk b) {i:Nat} (hi:i<b.Needs.length) (h:(i:Int)∈baldL b):¬ (i:Int)∈perhL b:=by
 rw [perh_mem ok hi]
 rintro ⟨t,ht,hb⟩
 rw [day_bit ok (tru_left ok ht) hi] at hb
 unfold canS at hb
 rw [decide_eq_true h] at hb
 cases hb
theorem none_sure {b:HarnessBook} (ok:HaOk b) {i:Nat} (hi:i<b.Needs.length) (h:¬ (i:Int)∈baldL b) (hn:noneQ b i=true):(i:Int)∈sureL b:=by
 rw [sure_mem ok hi]
 intro t ht
 rw [day_bit ok (tru_left ok ht) hi]
 unfold canS
 rw [decide_eq_false h,Bool.not_false,Bool.true_and,leAll_iff]
 intro k hk
 have:=of_decide_eq_true (all_rng.1 hn k hk)
 have:=(stU_left ok (tru_left ok ht) i (by omega)).bd k
 omega
end Go.Proofs.YthcpnbeikdhlkaaDoor
namespace Go.Proofs.YthcpnbeikdhlkaaDoor
open Go Go.Abs Go.Proofs.Tt
theorem factN:((List.range 4).all fun (n:Nat)=>(List.range (2 ^ n)).all fun (p:Nat)=>(List.range (2 ^ n)).all fun (s:Nat)=>!(decide ((p &&& s)=s))||(decide ((bAndN (p:Int) (s:Int)).toNat<2 ^ n)&&(bAndN (p:Int) (s:Int)==((bAndN (p:Int) (s:Int)).toNat:Int))&&decide ((LT n (bAndN (p:Int) (s:Int)).toNat).length+(LT n s).length=(LT n p).length)))=true:=by kernel_rfl
def allH (b:HarnessBook):List Nat:=List.range b.Needs.length
def openN (b:HarnessBook):Int:=lenN b (perhN b (allH b)) - lenN b (sureN b (allH b))
theorem sub_sets {b:HarnessBook} (ok:HaOk b):perhN b (allH b) &&& sureN b (allH b)=sureN b (allH b):=by
 refine Nat.eq_of_testBit_eq fun i=>?_
 rw [Nat.testBit_and]
 by_cases hi:i<b.Needs.length
 ·cases hs:(sureN b (allH b)).testBit i with
  | false=>simp
  | true=>
   obtain ⟨t,ht⟩:=truL_ne ok
   have:(perhN b (allH b)).testBit i=true:=perh_bit.2 ⟨t,ht,(sure_bit hi).1 hs t ht⟩
   rw [this];rfl
 ·have h1:=sure_lt b (allH b)
  have h2:2 ^ b.Needs.length≤2 ^ i:=Nat.pow_le_pow_right (by decide) (by omega)
  rw [Nat.testBit_lt_two_pow (show sureN b (allH b)<2 ^ i by omega),Bool.and_false]
theorem hb84 {b:HarnessBook} (ok:HaOk b) {m:List (Harness_want×Int)} (hm:NdOk b m):g52 b (baldL b) m=some (openN b):=by
 have h3:=ok.n3
 have hp:=perh_lt ok (order:=allH b) (fun h=>range_lt)
 have hs:=sure_lt b (allH b)
 have hf:=all1 (all1 (all1 factN (show b.Needs.length<4 by omega)) hp) hs
 rw [decide_eq_true (sub_sets ok)] at hf
 simp only [Bool.not_true,Bool.false_or,Bool.and_eq_true,decide_eq_true_eq,beq_iff_eq] at hf
 obtain ⟨⟨f1,f2⟩,f3⟩:=hf
 unfold g52
 rw [hb61 ok,bsm,show castL (List.range b.Needs.length)=castL (allH b) from rfl,hb60 ok hm (order:=allH b) (fun h=>range_lt),bsm]
 simp only
 rw [f2,hb62 ok _ _ f1,bsm]
 unfold openN lenN
 congr 1
 omega
def worstN (b:HarnessBook) (k:Nat):Int:=(List.range' 0 (highOf b k - lowOf b k+1).toNat).foldl (fun w (j:Nat)=>max w (openN (cntB b k (lowOf b k+(j:Int))))) 0
theorem forS_max {f:Int→Int→Option Int} {F:Nat→Int} {a:Int}:∀ (n i:Nat) (w:Int),(∀ (j:Nat) w,i≤j→j<i+n→f (a+(j:Int)) w=some (max w (F j)))→forS f n (a+(i:Int)) w=some ((List.range' i n).foldl (fun w j=>max w (F j)) w)
 | 0,i,w,h=>rfl
 | n+1,i,w,h=>by
  rw [forS,h i w (Nat.le_refl _) (by omega),bsm,show a+(i:Int)+1=a+((i+1:Nat):Int) by omega,forS_max n (i+1) _ (fun j w h1 h2=>h j w (by omega) (by omega)),List.range'_succ,List.foldl_cons]
theorem eachS_foldI {α S:Type} {f:Int→α→S→Option S} {g:S→Nat→S}:∀ (xs:List α) (i:Nat) (s:S),(∀ (j:Nat) x s,i≤j→xs[j - i]?=some x→f (j:Int) x s=some (g s j))→eachS f xs (i:Int) s=some ((List.range' i xs.length).foldl g s)
 | [],i,s,h=>rfl
 | x::xs,i,s,h=>by
  rw [eachS,h i x s (Nat.le_refl _) (by simp),bsm,List.length_cons,List.range'_succ,List.foldl_cons,show (i:Int)+1=((i+1:Nat):Int) by omega]
  exact eachS_foldI xs (i+1) (g s i) (fun j y s hj hy=>h j y s (by omega) (by
   have:j - i=(j - (i+1))+1:=by omega
   rw [this,List.getElem?_cons_succ];exact hy))
def stepF (b:HarnessBook) (s:Int×Int) (k:Nat):Int×Int:=bif decide (s.1<0)||decide (worstN b k<s.2) then ((k:Int),worstN b k) else s
def bestF (b:HarnessBook):Int×Int:=(List.range' 0 b.Stock.length).foldl (stepF b) (-1,0)
def countR (b:HarnessBook):Int×Int:=bif decide (openN b=0) then (0,4) else ((bestF b).1,0)
theorem cnt_nd {b:HarnessBook} {m:List (Harness_want×Int)} (hm:NdOk b m) (k:Nat) (c:Int):NdOk (cntB b k c) m:=fun h j h1 h2=>by
 rw [cnt_len] at h2
 exact hm h j h1 h2
theorem hb31 {b:HarnessBook} (ok:HaOk b):g22 b=some (countR b):=by
 obtain ⟨m,e,hm⟩:=hb59 ok
 have h1:=ok.s1
 have h3:=ok.s3
 unfold g22
 rw [e,bsm]
 simp only [ne_eq,not_true_eq_false,decide_false,cond_false]
 rw [hb84 ok hm,bsm]
 unfold countR
 cases ho:decide (openN b=0) with
 | true=>rfl
 | false=>
  simp only [cond_false]
  have hE:=eachS_foldI (f:=g22_15 b b (baldL b) m) (g:=stepF b) b.Stock 0 (-1,0) (fun k p s hj hx=>by
   rw [Nat.sub_zero] at hx
   have hk:k<b.Stock.length:=(List.getElem?_eq_some_iff.1 hx).1
   have hst:=ok.st p (List.mem_of_getElem? hx)
   have el:lowOf b k=p.Low:=by unfold lowOf;rw [hx]
   have eh:highOf b k=p.High:=by unfold highOf;rw [hx]
   have hF:=forS_max (f:=g22_21 b b (baldL b) m (k:Int) p) (F:=fun j=>openN (cntB b k (lowOf b k+(j:Int)))) (a:=0) (p.High - p.Low+1).toNat 0 0 (fun j w _ hj=>by
    rw [Int.zero_add]
    unfold g22_21 g53
    rw [must_t (by simp;omega),bsm,appL_ok (by rw [List.nil_append];omega),bsm,bsm,List.nil_append,ixL_nat,hx,bsm,wr_in (n:=p.Low+(j:Int)) (by omega) (by omega)]
    have h:=hb84 (cnt_ok ok hk (c:=lowOf b k+(j:Int)) (by omega) (by omega)) (cnt_nd hm k (lowOf b k+(j:Int)))
    rw [el] at h ⊢
    have h':g52 ⟨b.Hair,b.Needs,setL b.Stock (k:Int) ⟨p.Low+(j:Int),p.Low+(j:Int)⟩,b.Pack,b.Bad⟩ (baldL b) m=some (openN (cntB b k (p.Low+(j:Int)))):=h
    rw [h',bsm])
   rw [show (0:Int)+((0:Nat):Int)=0 from rfl] at hF
   obtain ⟨s1,s2⟩:=s
   unfold g22_15
   simp only
   rw [wr_in (n:=p.High - p.Low) (by omega) (by omega),wr_in (n:=p.High - p.Low+1) (by omega) (by omega),Int.sub_zero,hF,bsm]
   unfold stepF worstN
   rw [eh,el]
   simp only
   cases decide (s1<0)||decide ((List.range' 0 (p.High - p.Low+1).toNat).foldl (fun w (j:Nat)=>max w (openN (cntB b k (p.Low+(j:Int))))) 0<s2)<;>rfl)
  rw [show ((0:Nat):Int)=0 from rfl] at hE
  rw [hE,bsm]
  rfl
end Go.Proofs.YthcpnbeikdhlkaaDoor
namespace Go.Proofs.YthcpnbeikdhlkaaDoor
open Go Go.Abs Go.Proofs.Tt
def quL (n:Nat):Nat→List Nat→List (List Nat)
 | 0,pre=>[pre]
 | d+1,pre=>(List.range' 0 n).flatMap fun (h:Nat)=>bif decide (h∈pre) then [] else quL n d (pre++[h])
theorem quL_mem {n:Nat}:∀ (d:Nat) (pre q:List Nat),(∀ h,h∈pre→h<n)→q∈quL n d pre→(∀ h,h∈q→h<n)∧q.length=pre.length+d
 | 0,pre,q,hp,hq=>by
  simp only [quL,List.mem_singleton] at hq
  subst hq
  exact ⟨hp,by omega⟩
 | d+1,pre,q,hp,hq=>by
  rw [quL] at hq
  obtain ⟨h,hh,hq⟩:=List.mem_flatMap.1 hq
  rw [List.mem_range'_1] at hh
  cases hc:decide (h∈pre) with
  | true=>rw [hc] at hq;cases hq
  | false=>
   rw [hc] at hq
   obtain ⟨a,c⟩:=quL_mem d (pre++[h]) q (fun k hk=>by
    rcases List.mem_append.1 hk with hk | hk
    ·exact hp k hk
    ·rw [List.mem_singleton] at hk;omega) hq
   exact ⟨a,by rw [c,List.length_append,List.length_singleton];omega⟩
theorem castL_mem {l:List Nat} {h:Nat}:(h:Int)∈castL l↔h∈l:=by
 unfold castL
 rw [List.mem_map]
 constructor
 ·rintro ⟨k,hk,e⟩
  have:k=h:=by omega
  subst this;exact hk
 ·intro hh;exact ⟨h,hh,rfl⟩
theorem castL_len (l:List Nat):(castL l).length=l.length:=List.length_map ..
theorem castL_snoc (l:List Nat) (h:Nat):castL l++[(h:Int)]=castL (l++[h]):=by unfold castL;rw [List.map_append];rfl
def stepQ (b:HarnessBook) (s:Int×List Int) (q:List Nat):Int×List Int:=bif decide (s.1<lenN b (sureN b q)) then (lenN b (sureN b q),castL q) else s
theorem hb88 {b:HarnessBook} (ok:HaOk b) {m:List (Harness_want×Int)} (hm:NdOk b m):∀ (d:Nat) (pre:List Nat) (f:Nat) (s:Int×List Int),pre.length+d=b.Needs.length→d+1≤f→(∀ h,h∈pre→h<b.Needs.length)→g43 f (castL pre) b b (baldL b) m s.1 s.2=some ((quL b.Needs.length d pre).foldl (stepQ b) s)
 | d,pre,0,s,hl,hf,hp=>by omega
 | 0,pre,f+1,s,hl,hf,hp=>by
  obtain ⟨s1,s2⟩:=s
  rw [g43]
  rw [castL_len,decide_eq_true (by omega),cond_true,hb60 ok hm hp,bsm]
  simp only
  rw [hb62 ok _ _ (sure_lt _ _),bsm]
  show (bif decide (s1<lenN b (sureN b pre)) then some (lenN b (sureN b pre),castL pre) else some (s1,s2))=some (stepQ b (s1,s2) pre)
  unfold stepQ
  simp only
  cases decide (s1<lenN b (sureN b pre))<;>rfl
 | d+1,pre,f+1,s,hl,hf,hp=>by
  have h3:=ok.n3
  have key:∀ (ls:List (List Int)) (i:Nat) (s:Int×List Int),i+ls.length=b.Needs.length→eachS (g43_12 (g43 f) (castL pre) b b (baldL b) m) ls (i:Int) s=some (((List.range' i ls.length).flatMap fun (h:Nat)=>bif decide (h∈pre) then [] else quL b.Needs.length d (pre++[h])).foldl (stepQ b) s):=by
   intro ls
   induction ls with
   | nil=>intro i s hi;rfl
   | cons l ls ih=>
    intro i s hi
    rw [List.length_cons] at hi
    have hs:g43_12 (g43 f) (castL pre) b b (baldL b) m (i:Int) l s=some ((bif decide (i∈pre) then [] else quL b.Needs.length d (pre++[i])).foldl (stepQ b) s):=by
     obtain ⟨s1,s2⟩:=s
     unfold g43_12
     simp only
     rw [hb89,bsm]
     by_cases hc:i∈pre
     ·rw [decide_eq_true (castL_mem.2 hc),decide_eq_true hc]
      rfl
     ·rw [decide_eq_false (fun h=>hc (castL_mem.1 h)),decide_eq_false hc]
      simp only [Bool.not_false,cond_true,cond_false]
      have hr:=hb88 ok hm d (pre++[i]) f (s1,s2) (by simp;omega) (by omega) (fun k hk=>by
       rcases List.mem_append.1 hk with hk | hk
       ·exact hp k hk
       ·rw [List.mem_singleton] at hk;omega)
      rw [slcL_all,bsm,appL_ok (by rw [List.length_append,castL_len,List.length_singleton];omega),bsm,castL_snoc]
      simp only at hr
      rw [hr,bsm]
    rw [eachS,hs,bsm,show (i:Int)+1=((i+1:Nat):Int) by omega,ih (i+1) _ (by omega),List.length_cons,List.range'_succ,List.flatMap_cons,List.foldl_append]
  have hk:=key b.Needs 0 s (by omega)
  rw [show ((0:Nat):Int)=0 from rfl] at hk
  rw [g43]
  rw [castL_len,decide_eq_false (by omega),cond_false,hk,bsm,quL]
def allQ (b:HarnessBook):List (List Nat):=quL b.Needs.length b.Needs.length []
def bestQ (b:HarnessBook):Int×List Int:=(allQ b).foldl (stepQ b) (-1,[])
theorem factQu:((List.range 4).all fun (n:Nat)=>decide (0<(quL n n []).length))=true:=by kernel_rfl
theorem allQ_cons {b:HarnessBook} (ok:HaOk b):∃ q l,allQ b=q::l:=by
 have h3:=ok.n3
 have h:=of_decide_eq_true (all1 factQu (show b.Needs.length<4 by omega))
 unfold allQ
 match quL b.Needs.length b.Needs.length [],h with
 | q::l,_=>exact ⟨q,l,rfl⟩
theorem allQ_mem {b:HarnessBook} {q:List Nat} (hq:q∈allQ b):(∀ h,h∈q→h<b.Needs.length)∧q.length=b.Needs.length:=by
 have:=quL_mem (n:=b.Needs.length) b.Needs.length [] q (fun h hh=>by cases hh) hq
 simpa using this
theorem hb33 {b:HarnessBook} (ok:HaOk b):g14 b=some ((bestQ b).2,0):=by
 have h3:=ok.n3
 obtain ⟨m,e,hm⟩:=hb59 ok
 have h:=hb88 ok hm b.Needs.length [] 1000 (-1,[]) (by simp) (by omega) (fun h hh=>by cases hh)
 unfold g14
 rw [e,bsm]
 simp only [ne_eq,not_true_eq_false,decide_false,cond_false]
 simp only [castL,List.map_nil] at h
 rw [h,bsm]
 show ((slcL (bestQ b).2 0 ((bestQ b).2.length:Int)).bind _)=_
 rw [slcL_all,bsm]
end Go.Proofs.YthcpnbeikdhlkaaDoor
namespace Go.Proofs.YthcpnbeikdhlkaaDoor
open Go Go.Abs Go.Proofs.Tt
def fQ (b:HarnessBook) (q:List Nat):Int:=lenN b (sureN b q)
theorem best_mid {b:HarnessBook} (ok:HaOk b):∀ (l:List (List Nat)),l≠[]→∃ l1 q l2,l=l1++q::l2∧l.foldl (stepQ b) (-1,[])=(fQ b q,castL q)∧(∀ x,x∈l1→fQ b x<fQ b q)∧∀ x,x∈l2→fQ b x≤fQ b q:=by
 intro l
 generalize hn:l.length=n
 induction n generalizing l with
 | zero=>intro h;exact absurd (List.length_eq_zero_iff.1 hn) h
 | succ n ih=>
  intro h
  obtain ⟨m,x,rfl⟩:∃ m x,l=m++[x]:=⟨l.dropLast,l.getLast h,(List.dropLast_concat_getLast h).symm⟩
  rw [List.length_append,List.length_singleton] at hn
  rw [List.foldl_append]
  simp only [List.foldl_cons,List.foldl_nil]
  by_cases hm:m=[]
  ·subst hm
   have h0:=(len_bd ok (sure_lt b x)).1
   have e0:stepQ b (-1,[]) x=(fQ b x,castL x):=by
    unfold stepQ
    rw [decide_eq_true (show (-1:Int)<lenN b (sureN b x) by omega)]
    rfl
   exact ⟨[],x,[],rfl,e0,(fun y hy=>nomatch hy),(fun y hy=>nomatch hy)⟩
  ·obtain ⟨l1,q,l2,e,ef,a1,a2⟩:=ih m (by omega) hm
   rw [ef]
   unfold stepQ
   simp only
   by_cases hlt:fQ b q<lenN b (sureN b x)
   ·rw [decide_eq_true hlt]
    refine ⟨m,x,[],by simp,rfl,fun y hy=>?_,fun y hy=>by cases hy⟩
    rw [e] at hy
    show fQ b y<lenN b (sureN b x)
    rcases List.mem_append.1 hy with hy | hy
    ·have:=a1 y hy;omega
    ·rcases List.mem_cons.1 hy with rfl | hy
     ·exact hlt
     ·have:=a2 y hy;omega
   ·rw [decide_eq_false hlt]
    refine ⟨l1,q,l2++[x],by rw [e];simp,rfl,a1,fun y hy=>?_⟩
    rcases List.mem_append.1 hy with hy | hy
    ·exact a2 y hy
    ·rw [List.mem_singleton] at hy
     subst hy
     show lenN b (sureN b y)≤fQ b q
     omega
end Go.Proofs.YthcpnbeikdhlkaaDoor
namespace Go.Proofs.YthcpnbeikdhlkaaDoor
open Go Go.Abs Go.Proofs.Tt
theorem dressed_ok:g6=some true:=by kernel_rfl
theorem one_is (n:Int):g9 n=some ⟨n,n⟩:=rfl
theorem in_is (n a c:Int):g11 n a c=some (rg n a c):=rfl
def sd10 (s:Span):Bool:=decide (0≤s.Low)&&decide (s.Low≤s.High)&&decide (s.High≤40)
theorem small_l (b:HarnessBook) (hl:b.Stock.length<900) (s:Bool):whileC (g5_23 b) 1000 (s,0)=some (s&&b.Stock.all sd10):=by
 have h0:∀ i,g5_23 b (false,i)=some (.brk false):=fun i=>by simp [g5_23,bsm]
 cases s with
 | false=>rw [whileC,h0];rfl
 | true=>
  have:=while_all (f:=g5_23 b) (p:=sd10) (xs:=b.Stock) hl h0 (by simp [g5_23,bsm]) (fun i x hx=>by
   have hi:i<b.Stock.length:=(List.getElem?_eq_some_iff.1 hx).1
   simp only [g5_23,cond_true,bsm,ixL_nat,hx,g26,sd10]
   have:decide ((i:Int)<(b.Stock.length:Int))=true:=by simp [hi]
   rw [this,wr_nat (by omega)]
   simp only [cond_true]) b.Stock.length 0 (by omega) 1000 (by omega)
  simpa using this
theorem small_is (b:HarnessBook):g5 b=some (okHa b):=by
 unfold g5
 rw [hb18,bsm]
 cases hok:okHa b with
 | false=>
  simp only [cond_false,show decide ((100:Int)=0)=false from rfl,bsm]
  have e1:whileC (g5_23 b) 1000 (false,0)=some false:=by rw [whileC];simp [g5_23,bsm]
  simp only [e1,bsm]
 | true=>
  have ok:=haOk_of hok
  have h3:=ok.s3
  have h1:=ok.s1
  have hp:=ok.pack
  have hd:=ok.bad
  have q1:b.Stock.all sd10=true:=by
   rw [List.all_eq_true]
   intro x hx
   have:=ok.st x hx
   simp only [sd10,Bool.and_eq_true,decide_eq_true_eq]
   omega
  have a1:decide ((b.Hair.Hanks.length:Int)≤4)=true:=decide_eq_true (by have:=okH_l4 ok.ok;omega)
  have a2:decide ((b.Hair.Horses.length:Int)≤3)=true:=decide_eq_true (by have:=(okH_of ok.ok).l3;omega)
  have a3:decide ((b.Needs.length:Int)=(b.Hair.Horses.length:Int))=true:=decide_eq_true (by rw [ok.nl])
  have a4:rg (b.Stock.length:Int) 1 3=true:=rg_iff.2 (by omega)
  have a5:rg b.Pack 1 12=true:=rg_iff.2 hp
  have a6:rg b.Bad 0 (wr (b.Pack - 1))=true:=by rw [wr_in (by omega) (by omega)];exact rg_iff.2 hd
  simp only [cond_true,decide_true,p17,ok.ok,bsm,in_is,a1,a2,a3,a4,a5,a6,small_l b (by omega),q1,Bool.and_true]
theorem factHd:((List.range 4).all fun (n:Nat)=>(quL n n []).head?==some (List.range n))=true:=by kernel_rfl
theorem bindC_nx {S R:Type} (s:S) (k:S→Option R):bindC (some (.next s)) k=k s:=rfl
theorem eq_refl15 (l:List Int) (hl:l.length<900):g15 l l=some true:=hb17 l hl
end Go.Proofs.YthcpnbeikdhlkaaDoor
namespace Go.Proofs.YthcpnbeikdhlkaaDoor
open Go Go.Abs Go.Proofs.Tt
def bareB (t:HarnessBook):HarnessBook:=⟨t.Hair,t.Needs.map fun _=>List.replicate t.Stock.length 0,t.Stock,t.Pack,t.Bad⟩
theorem mkL2_is {n:Nat} (h:n≤100):mkL2 8 (n:Int) (n:Int) (0:Int)=some (List.replicate n 0):=by
 unfold mkL2
 rw [decide_eq_true (show (0:Int)≤(n:Int) by omega),decide_eq_true (show (n:Int)≤(n:Int) by omega),decide_eq_true (show ((8:Nat):Int)*(n:Int)≤281474976710656 by omega),decide_eq_true (show (n:Int)≤9223372036854775807 by omega)]
 simp
theorem bare_loop {t:HarnessBook} (h3:t.Stock.length≤3):∀ (ls:List (List Int)) (i:Int) (acc:List (List Int)),acc.length+ls.length≤100→eachS (g4_8 t) ls i acc=some (acc++ls.map fun _=>List.replicate t.Stock.length 0)
 | [],i,acc,h=>by simp [eachS]
 | l::ls,i,acc,h=>by
  rw [List.length_cons] at h
  have e:g4_8 t i l acc=some (acc++[List.replicate t.Stock.length 0]):=by
   unfold g4_8
   rw [mkL2_is (by omega),bsm,appL_ok (by rw [List.length_append,List.length_singleton];omega),bsm]
  rw [eachS,e,bsm,bare_loop h3 ls (i+1) _ (by rw [List.length_append,List.length_singleton];omega)]
  simp
theorem bare_ok {t:HarnessBook} (ok:HaOk t):HaOk (bareB t):=by
 refine ⟨ok.ok,ok.s1,ok.s3,by show (t.Needs.map _).length=_;rw [List.length_map];exact ok.nl,by show (t.Needs.map _).length≤3;rw [List.length_map];exact ok.n3,ok.pack,ok.bad,ok.st,fun l hl=>?_⟩
 have hl':l∈t.Needs.map fun _=>List.replicate t.Stock.length (0:Int):=hl
 rw [List.mem_map] at hl'
 obtain ⟨_,_,rfl⟩:=hl'
 refine ⟨by show (List.replicate t.Stock.length (0:Int)).length=t.Stock.length;simp,fun n hn=>?_⟩
 have:=List.eq_of_mem_replicate hn
 omega
theorem bare_nl (t:HarnessBook):(bareB t).Needs.length=t.Needs.length:=by show (t.Needs.map _).length=_;simp
theorem bare_none {t:HarnessBook} {i:Nat} (hi:i<t.Needs.length):noneQ (bareB t) i=true:=by
 unfold noneQ
 rw [all_rng]
 intro k hk
 have e:rowOf (bareB t) i=List.replicate t.Stock.length 0:=by
  unfold rowOf
  show ((t.Needs.map fun _=>List.replicate t.Stock.length (0:Int))[i]?).getD []=_
  rw [List.getElem?_map,List.getElem?_eq_getElem hi];rfl
 rw [e]
 unfold arr
 refine decide_eq_true ?_
 rw [List.getElem?_replicate]
 split<;>rfl
theorem sum_zero (m kind:Nat) (bald:List Int):∀ (ls:List (List Int)) (h:Nat),sumL (wlS bald kind (ls.map fun _=>List.replicate m (0:Int)) h)=0
 | [],h=>rfl
 | l::ls,h=>by
  have hz:((List.replicate m (0:Int))[kind]?).getD 0=0:=by
   rw [List.getElem?_replicate]
   split<;>rfl
  rw [List.map_cons,wlS,hz]
  cases decide ((h:Int)∈bald) with
  | true=>rw [cond_true,List.nil_append];exact sum_zero m kind bald ls (h+1)
  | false=>rw [cond_false,List.singleton_append,sumL,sum_zero m kind bald ls (h+1)];rfl
theorem bare_want (t:HarnessBook) (k:Nat):want (bareB t) k=0:=sum_zero _ _ _ _ _
theorem bare_bit {b:HarnessBook} (ok:HaOk b) (hz:∀ i,i<b.Needs.length→noneQ b i=true) {t:List Int} (ht:t∈truL b.Stock) {i:Nat} (hi:i<b.Needs.length):(dayN b (List.range b.Needs.length) t).testBit i=!decide ((i:Int)∈baldL b):=by
 by_cases hc:(i:Int)∈baldL b
 ·rw [decide_eq_true hc,Bool.not_true]
  have:=bald_no ok hi hc
  rw [perh_mem ok hi] at this
  cases h:(dayN b (List.range b.Needs.length) t).testBit i with
  | false=>rfl
  | true=>exact absurd ⟨t,ht,h⟩ this
 ·rw [decide_eq_false hc,Bool.not_false]
  have:=none_sure ok hi hc (hz i hi)
  rw [sure_mem ok hi] at this
  exact this t ht
theorem bare_sureb {b:HarnessBook} (ok:HaOk b) (hz:∀ i,i<b.Needs.length→noneQ b i=true) {i:Nat} (hi:i<b.Needs.length):(sureN b (List.range b.Needs.length)).testBit i=!decide ((i:Int)∈baldL b):=by
 obtain ⟨t0,ht0⟩:=truL_ne ok
 cases hd:!decide ((i:Int)∈baldL b) with
 | true=>rw [sure_bit hi];intro t ht;rw [bare_bit ok hz ht hi,hd]
 | false=>
  cases h:(sureN b (List.range b.Needs.length)).testBit i with
  | false=>rfl
  | true=>
   rw [sure_bit hi] at h
   have:=h t0 ht0
   rw [bare_bit ok hz ht0 hi,hd] at this
   cases this
theorem nat_bits {n x y:Nat} (hx:x<2 ^ n) (hy:y<2 ^ n) (h:∀ i,i<n→x.testBit i=y.testBit i):x=y:=by
 refine Nat.eq_of_testBit_eq fun i=>?_
 by_cases hi:i<n
 ·exact h i hi
 ·have hp:2 ^ n≤2 ^ i:=Nat.pow_le_pow_right (by omega) (by omega)
  rw [Nat.testBit_lt_two_pow (Nat.lt_of_lt_of_le hx hp),Nat.testBit_lt_two_pow (Nat.lt_of_lt_of_le hy hp)]
theorem bare_day {b:HarnessBook} (ok:HaOk b) (hz:∀ i,i<b.Needs.length→noneQ b i=true) {t:List Int} (ht:t∈truL b.Stock):dayN b (List.range b.Needs.length) t=sureN b (List.range b.Needs.length):=
 nat_bits (dayN_ok ok (fun h=>range_lt) t).1 (sure_lt b _) fun i hi=>by rw [bare_bit ok hz ht hi,bare_sureb ok hz hi]
theorem bare_perh {b:HarnessBook} (ok:HaOk b) (hz:∀ i,i<b.Needs.length→noneQ b i=true):perhN b (List.range b.Needs.length)=sureN b (List.range b.Needs.length):=
 nat_bits (perh_lt ok (fun h=>range_lt)) (sure_lt b _) fun i hi=>by
  obtain ⟨t0,ht0⟩:=truL_ne ok
  rw [bare_sureb ok hz hi]
  cases hd:!decide ((i:Int)∈baldL b) with
  | true=>rw [perh_bit];exact ⟨t0,ht0,by rw [bare_bit ok hz ht0 hi,hd]⟩
  | false=>
   cases h:(perhN b (List.range b.Needs.length)).testBit i with
   | false=>rfl
   | true=>
    rw [perh_bit] at h
    obtain ⟨t,ht,h⟩:=h
    rw [bare_bit ok hz ht hi,hd] at h
    cases h
theorem sets_ne {b:HarnessBook} (ok:HaOk b) (order:List Nat):∃ s l,setsN b order=s::l:=by
 obtain ⟨t0,ht0⟩:=truL_ne ok
 have hm:dayN b order t0∈setsN b order:=List.mem_map_of_mem ht0
 cases h:setsN b order with
 | nil=>rw [h] at hm;cases hm
 | cons s l=>exact ⟨s,l,rfl⟩
theorem bare_packs {t:HarnessBook} (ok:HaOk (bareB t)) (k:Nat):packs (bareB t) k=0:=by
 have hst:=st_bd ok k
 have hp:=ok.pack
 have hb:=ok.bad
 obtain ⟨a,_,_,d⟩:=packs_spec ok k
 rw [bare_want,show max (0:Int) (0 - lowOf (bareB t) k)=0 by omega] at d
 by_cases h:packs (bareB t) k=0
 ·exact h
 ·have:=Int.mul_nonneg (show 0≤packs (bareB t) k - 1 by omega) (show 0≤(bareB t).Pack - (bareB t).Bad by omega)
  omega
theorem fold_stay (b:HarnessBook) (S:Nat):∀ (l:List Nat),(∀ s,s∈l→s=S)→l.foldl (fun (v:Int×Int) s=>(min v.1 (lenN b s),max v.2 (lenN b s))) (lenN b S,lenN b S)=(lenN b S,lenN b S)
 | [],h=>rfl
 | s::l,h=>by
  rw [List.foldl_cons,h s (by simp),Int.min_self,Int.max_self]
  exact fold_stay b S l fun s hs=>h s (by simp [hs])
theorem bare_many {b:HarnessBook} (ok:HaOk b) (hz:∀ i,i<b.Needs.length→noneQ b i=true):manyN b=(lenN b (sureN b (List.range b.Needs.length)),lenN b (sureN b (List.range b.Needs.length))):=by
 obtain ⟨s,l,e⟩:=sets_ne ok (List.range b.Needs.length)
 have hall:∀ s,s∈setsN b (List.range b.Needs.length)→s=sureN b (List.range b.Needs.length):=fun s hs=>by
  obtain ⟨t,ht,rfl⟩:=List.mem_map.1 hs
  exact bare_day ok hz ht
 have hb:=len_bd ok (sure_lt b (List.range b.Needs.length))
 unfold manyN
 rw [e] at hall ⊢
 rw [List.foldl_cons,hall s (by simp)]
 simp only
 rw [show min ((b.Needs.length:Int)) (lenN b (sureN b (List.range b.Needs.length)))=lenN b (sureN b (List.range b.Needs.length)) by omega,show max (0:Int) (lenN b (sureN b (List.range b.Needs.length)))=lenN b (sureN b (List.range b.Needs.length)) by omega]
 exact fold_stay b _ l fun s hs=>hall s (by simp [hs])
theorem day_bald {b:HarnessBook} (ok:HaOk b) {i:Nat} (hb:(i:Int)∈baldL b):∀ (order:List Nat),(∀ h,h∈order→h<b.Needs.length)→∀ (s:Int×List Int) (x:Nat),x<2 ^ b.Needs.length→s.1=(x:Int)→x.testBit i=false→∃ y:Nat,(order.foldl (dayStep b) s).1=(y:Int)∧y.testBit i=false
 | [],ho,s,x,hx,hs,hi=>⟨x,hs,hi⟩
 | h::os,ho,s,x,hx,hs,hi=>by
  have h3:=ok.n3
  have h8:=p8 h3
  have hh:=ho h (by simp)
  have h2:2 ^ h<2 ^ b.Needs.length:=Nat.pow_lt_pow_right (by decide) hh
  rw [List.foldl_cons]
  cases hc:canS b s.2 h with
  | false=>
   have e:dayStep b s h=s:=by unfold dayStep;rw [hc,cond_false]
   rw [e]
   exact day_bald ok hb os (fun k hk=>ho k (by simp [hk])) s x hx hs hi
  | true=>
   have e:(dayStep b s h).1=((x ||| 2 ^ h:Nat):Int):=by
    unfold dayStep
    rw [hc,cond_true]
    show bOr s.1 (shl64 1 (h:Int))=_
    rw [hs,fSh (by omega),fOr (by omega) (by omega)]
   have hne:h≠i:=fun e=>by
    subst e
    unfold canS at hc
    rw [decide_eq_true hb] at hc
    cases hc
   refine day_bald ok hb os (fun k hk=>ho k (by simp [hk])) _ _ (Nat.or_lt_two_pow hx h2) e ?_
   rw [Nat.testBit_or,hi,Nat.testBit_two_pow,decide_eq_false hne];rfl
theorem day_bald' {b:HarnessBook} (ok:HaOk b) {i:Nat} (hb:(i:Int)∈baldL b) {order:List Nat} (ho:∀ h,h∈order→h<b.Needs.length) (t:List Int):(dayN b order t).testBit i=false:=by
 obtain ⟨y,e,h⟩:=day_bald ok hb order ho (0,t) 0 (Nat.two_pow_pos _) rfl (Nat.zero_testBit i)
 have:dayN b order t=y:=by
  show ((order.foldl (dayStep b) (0,t)).1).toNat=y
  rw [e];simp
 rw [this,h]
theorem factSub:((List.range 4).all fun (n:Nat)=>(List.range (2 ^ n)).all fun (s:Nat)=>(List.range (2 ^ n)).all fun (u:Nat)=>((List.range n).any fun (i:Nat)=>s.testBit i&&!u.testBit i)||decide ((LT n s).length≤(LT n u).length))=true:=by kernel_rfl
theorem factLst:((List.range 4).all fun (n:Nat)=>(List.range (2 ^ n)).all fun (s:Nat)=>LT n s==castL ((List.range' 0 n).filter fun k=>s.testBit k))=true:=by kernel_rfl
theorem queue_head {b:HarnessBook} (ok:HaOk b) (h:∀ q,q∈allQ b→fQ b q≤fQ b (List.range b.Needs.length)):(bestQ b).2=castL (List.range b.Needs.length):=by
 have h3:=ok.n3
 have hh:=all1 factHd (show b.Needs.length<4 by omega)
 have hh:=eq_of_beq hh
 obtain ⟨q0,l0,e0⟩:=allQ_cons ok
 have e1:allQ b=quL b.Needs.length b.Needs.length []:=rfl
 rw [← e1,e0] at hh
 have hq0:q0=List.range b.Needs.length:=by simpa using hh
 obtain ⟨l1,q,l2,e2,e3,lo,_⟩:=best_mid ok (allQ b) (by rw [e0];simp)
 have hb:(bestQ b).2=castL q:=by unfold bestQ;rw [e3]
 rw [hb]
 have hq:q∈allQ b:=by rw [e2];simp
 have hm:=h q hq
 cases l1 with
 | nil=>
  rw [e0] at e2
  simp only [List.nil_append,List.cons.injEq] at e2
  rw [← e2.1,hq0]
 | cons a l1=>
  rw [e0] at e2
  simp only [List.cons_append,List.cons.injEq] at e2
  have h1:=lo a (by simp)
  rw [← e2.1,hq0] at h1
  omega
theorem bare_queue {b:HarnessBook} (ok:HaOk b) (hz:∀ i,i<b.Needs.length→noneQ b i=true):(bestQ b).2=castL (List.range b.Needs.length):=by
 have h3:=ok.n3
 obtain ⟨t0,ht0⟩:=truL_ne ok
 refine queue_head ok fun q hq=>?_
 have hf:=all1 (all1 (all1 factSub (show b.Needs.length<4 by omega)) (sure_lt b q)) (sure_lt b (List.range b.Needs.length))
 rw [Bool.or_eq_true] at hf
 unfold fQ lenN
 rcases hf with hf | hf
 ·rw [List.any_eq_true] at hf
  obtain ⟨i,hi,hf⟩:=hf
  have hi:=List.mem_range.1 hi
  rw [Bool.and_eq_true,bare_sureb ok hz hi,Bool.not_not,decide_eq_true_eq] at hf
  have h1:=(sure_bit hi).1 hf.1 t0 ht0
  rw [day_bald' ok hf.2 (allQ_mem hq).1 t0] at h1
  cases h1
 ·have:=of_decide_eq_true hf
  omega
theorem has_loop (bald:List Int):∀ (xs:List Int) (i:Nat) (acc:List Int),acc.length+xs.length≤100→eachS (g4_25 bald) xs (i:Int) acc=some (acc++castL ((List.range' i xs.length).filter fun (k:Nat)=>!decide ((k:Int)∈bald)))
 | [],i,acc,h=>by simp [eachS]
 | x::xs,i,acc,h=>by
  rw [List.length_cons] at h
  obtain ⟨j,ej,_,hj⟩:=hbFind bald (i:Int)
  have e1:(i:Int)+1=((i+1:Nat):Int):=by omega
  rw [eachS,List.length_cons,List.range'_succ,List.filter_cons]
  unfold g4_25
  rw [ej,bsm,hj]
  cases hd:!decide ((i:Int)∈bald) with
  | true=>
   rw [cond_true,appL_ok (by rw [List.length_append,List.length_singleton];omega),bsm,bsm,e1]
   have:=has_loop bald xs (i+1) (acc++[(i:Int)]) (by rw [List.length_append,List.length_singleton];omega)
   unfold g4_25 at this
   rw [this]
   simp
  | false=>
   rw [cond_false,bsm,e1]
   have:=has_loop bald xs (i+1) acc (by omega)
   unfold g4_25 at this
   rw [this]
   simp
theorem has_is {b:HarnessBook} (ok:HaOk b) (hz:∀ i,i<b.Needs.length→noneQ b i=true):castL ((List.range' 0 b.Needs.length).filter fun (k:Nat)=>!decide ((k:Int)∈baldL b))=sureL b:=by
 have h3:=ok.n3
 have h:=all1 (all1 factLst (show b.Needs.length<4 by omega)) (sure_lt b (List.range b.Needs.length))
 have h:=eq_of_beq h
 unfold sureL
 rw [h]
 congr 1
 refine List.filter_congr fun k hk=>?_
 rw [bare_sureb ok hz (by rw [List.mem_range'_1] at hk;omega)]
theorem tot0:∀ n:Nat,n<4→g23 (List.replicate n 0)=some 0
 | 0,_=>rfl
 | 1,_=>rfl
 | 2,_=>rfl
 | 3,_=>rfl
 | n+4,h=>absurd h (by omega)
theorem plain4 (t:HarnessBook) (o:Int):g4 t o=some true:=by
 unfold g4
 rw [small_is,bsm]
 cases hok:okHa t with
 | false=>simp only [Bool.not_false,cond_true,bsm,dressed_ok]
 | true=>
  have ok:=haOk_of hok
  have h1:=ok.s1
  have h3:=ok.s3
  have hn3:=ok.n3
  have ok':=bare_ok ok
  have hnl:=bare_nl t
  have hz:∀ i,i<(bareB t).Needs.length→noneQ (bareB t) i=true:=fun i hi=>bare_none (by rw [hnl] at hi;exact hi)
  have e1:=bare_loop (t:=t) h3 t.Needs 0 [] (by simp;omega)
  rw [List.nil_append] at e1
  have eb:baldL (bareB t)=baldL t:=rfl
  have hall:g12 (wr ((shl64 1 (t.Needs.length:Int)) - 1)) (t.Needs.length:Int)=some (castL (List.range t.Needs.length)):=fAll (by omega)
  have e2:=has_loop (baldL t) (castL (List.range t.Needs.length)) 0 [] (by simp;omega)
  have hlen:(castL (List.range t.Needs.length)).length=t.Needs.length:=by simp
  have e3:=has_is ok' hz
  rw [hnl,eb] at e3
  rw [List.nil_append,hlen,e3] at e2
  have e2':eachS (g4_25 (baldL t)) (castL (List.range t.Needs.length)) 0 ([]:List Int)=some (sureL (bareB t)):=e2
  have hp:perhL (bareB t)=sureL (bareB t):=by unfold perhL sureL;rw [bare_perh ok' hz]
  have hq:=bare_queue ok' hz
  rw [hnl] at hq
  have hm:=bare_many ok' hz
  have hlS:((sureL (bareB t)).length:Int)=lenN (bareB t) (sureN (bareB t) (List.range (bareB t).Needs.length)):=rfl
  have hl9:(sureL (bareB t)).length<900:=LT_len ok' (sure_lt _ _)
  have hlr:(castL (List.range t.Needs.length)).length<900:=by simp;omega
  have hbk:HarnessBook.mk t.Hair (t.Needs.map fun _=>List.replicate t.Stock.length 0) t.Stock t.Pack t.Bad=bareB t:=rfl
  have hop:openN (bareB t)=0:=by
   unfold openN allH
   rw [bare_perh ok' hz];omega
  have hct:countR (bareB t)=(0,4):=by unfold countR;rw [hop];rfl
  have hpk:∀ k,packs (bareB t) k=0:=bare_packs ok'
  have hpL:packsL (bareB t)=List.replicate t.Stock.length 0:=by
   unfold packsL
   refine List.ext_getElem (by show _=_;simp;rfl) fun i h1 h2=>?_
   simp [hpk]
  rw [Bool.not_true,cond_false,e1,bsm,bald_eq ok,bsm]
  dsimp only
  rw [must_t (decide_eq_true (Int.natCast_nonneg _)),bsm,hall,bsm,e2',bsm,hbk,hb15' ok',bsm]
  dsimp only
  rw [hb20' ok',bsm]
  dsimp only
  rw [hb33 ok',bsm]
  dsimp only
  rw [hb22 ok',bsm,hm,hq,hp]
  simp only [ne_eq,not_true_eq_false,decide_false,cond_false,eq_refl15 _ hl9,eq_refl15 _ hlr,bsm,Bool.not_true,one_is,hlS,beq_self_eq_true,Bool.and_self,bne_self_eq_false,bindC_nx]
  obtain ⟨r,er,r1,r2⟩:=p39 o (many:=(t.Stock.length:Int)) (by omega) (by omega)
  obtain ⟨k,rfl⟩:∃ k:Nat,r=(k:Int):=⟨r.toNat,by omega⟩
  have hk:k<t.Stock.length:=by omega
  have hk':k<(bareB t).Stock.length:=hk
  have hst:=st_bd ok' k
  have hov:overLo (bareB t) k=(t.Stock[k]).Low∧overHi (bareB t) k=(t.Stock[k]).High:=by
   unfold overLo overHi lowOf highOf
   rw [hpk,bare_want]
   have:(bareB t).Stock[k]?=some t.Stock[k]:=List.getElem?_eq_getElem hk
   rw [this]
   simp
  rw [er,bsm,hb27e ok',bsm]
  dsimp only
  rw [hb25 ok' hk',bsm]
  dsimp only
  rw [hb29 ok' hk',bsm]
  dsimp only
  rw [hb31 ok',hct,bsm,hpL]
  simp only [decide_true,cond_true,List.length_replicate,bsm,tot0 _ (show t.Stock.length<4 by omega),one_is,bare_want,hov.1,hov.2,ixL_nat,List.getElem?_eq_getElem hk,beq_self_eq_true,Bool.and_self,dressed_ok,show max (0:Int) (0 - highOf (bareB t) k)=0 by omega,show max (0:Int) (0 - lowOf (bareB t) k)=0 by omega,Bool.false_bne]
  show ((bif ((t.Stock[k]'hk).Low==(t.Stock[k]'hk).Low&&((t.Stock[k]'hk).High==(t.Stock[k]'hk).High&&true)) then (some true) else (some false)).bind fun r=>some r)=some true
  rw [beq_self_eq_true,beq_self_eq_true];rfl
end Go.Proofs.YthcpnbeikdhlkaaDoor
