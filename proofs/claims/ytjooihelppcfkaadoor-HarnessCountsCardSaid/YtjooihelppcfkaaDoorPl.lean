/- Plain laws. Conditions: none. -/
import Derived.Test.YtjooihelppcfkaaDoorAr
set_option linter.unusedVariables false
set_option linter.unusedSimpArgs false
namespace Go.Proofs.YtjooihelppcfkaaDoor
open Go.Abs Go.Proofs.Tr
theorem dressed_ok:g24=some true:=by kernel_rfl
end Go.Proofs.YtjooihelppcfkaaDoor
namespace Go.Proofs.YtjooihelppcfkaaDoor
open Go.Abs Go.Proofs.Tr
theorem cs {α:Type} (c:Bool) (a b:α):(bif c then some a else some b)=some (bif c then a else b):=by cases c<;>rfl
theorem bsm {α β:Type} (a:α) (f:α→Option β):(some a).bind f=f a:=rfl
theorem eachS_all {α:Type} {f:Int→α→Bool→Option Bool} {p:α→Bool} (h:∀ i x s,f i x s=some (s&&p x)):∀ (xs:List α) (i:Int) (s:Bool),eachS f xs i s=some (s&&xs.all p)
 | [],i,s=>by simp [eachS]
 | x::xs,i,s=>by rw [eachS,h,bsm,eachS_all h xs];simp [Bool.and_assoc]
def rg (n a b:Int):Bool:=decide (a≤n)&&decide (n≤b)
theorem while_all {α:Type} {f:Bool×Int→Option (Ctl (Bool×Int) Bool)} {p:α→Bool} {xs:List α} (hl:xs.length<900)
  (h0:∀ i,f (false,i)=some (.brk false)) (h1:f (true,(xs.length:Int))=some (.brk true))
  (h:∀ (i:Nat) x,xs[i]?=some x→f (true,(i:Int))=some (.next (p x,((i+1:Nat):Int)))) :
  ∀ (n i:Nat),i+n=xs.length→∀ k,n+2≤k→whileC f k (true,(i:Int))=some ((xs.drop i).all p)
 | 0,i,hi,k,hk=>by
  obtain ⟨k,rfl⟩:∃ k',k=k'+1:=⟨k - 1,by omega⟩
  have:i=xs.length:=by omega
  subst this
  rw [whileC,h1];simp
 | n+1,i,hi,k,hk=>by
  obtain ⟨k,rfl⟩:∃ k',k=k'+1:=⟨k - 1,by omega⟩
  have hlt:i<xs.length:=by omega
  rw [whileC,h i _ (List.getElem?_eq_getElem hlt),bsm,List.drop_eq_getElem_cons hlt,List.all_cons]
  cases hp:p xs[i] with
  | false=>
   obtain ⟨k,rfl⟩:∃ k',k=k'+1:=⟨k - 1,by omega⟩
   simp only;rw [whileC,h0];rfl
  | true=>simp only;rw [while_all hl h0 h1 h n (i+1) (by omega) k (by omega)];simp
theorem wr_nat {i:Nat} (h:i<1000):wr ((i:Int)+1)=((i+1:Nat):Int):=by rw [wr_in (by omega) (by omega)];simp
theorem ixL_nat {α:Type} (xs:List α) (i:Nat):ixL xs (i:Int)=xs[i]?:=by
 unfold ixL
 have:decide (0≤(i:Int))=true:=by simp
 rw [this];simp
def Bd (a x:Int):Prop:=-a≤x∧x≤a
theorem Bd.mul {a b x y:Int} (hx:Bd a x) (hy:Bd b y):Bd (a*b) (x*y):=by
 have h1:x.natAbs≤a.natAbs:=by obtain ⟨h,k⟩:=hx;omega
 have h2:y.natAbs≤b.natAbs:=by obtain ⟨h,k⟩:=hy;omega
 have h3:=Nat.mul_le_mul h1 h2
 rw [← Int.natAbs_mul,← Int.natAbs_mul] at h3
 have ha:0≤a:=by obtain ⟨h,k⟩:=hx;omega
 have hb:0≤b:=by obtain ⟨h,k⟩:=hy;omega
 have:=Int.mul_nonneg ha hb
 constructor<;>omega
theorem Bd.add {a b x y:Int} (hx:Bd a x) (hy:Bd b y):Bd (a+b) (x+y):=by obtain ⟨h,k⟩:=hx;obtain ⟨h',k'⟩:=hy;constructor<;>omega
theorem Bd.sub {a b x y:Int} (hx:Bd a x) (hy:Bd b y):Bd (a+b) (x - y):=by obtain ⟨h,k⟩:=hx;obtain ⟨h',k'⟩:=hy;constructor<;>omega
theorem Bd.mono {a b x:Int} (hx:Bd a x) (h:a≤b):Bd b x:=by obtain ⟨h,k⟩:=hx;constructor<;>omega
theorem rg_iff {n a c:Int}:rg n a c=true↔a≤n∧n≤c:=by simp [rg]
theorem must_t {x:Bool} (h:x=true):must x=some ():=by subst h;rfl
def allI (p:Int→Bool):Nat→Int→Bool
 | 0,_=>true
 | n+1,i=>p i&&allI p n (i+1)
theorem allI_iff {p:Int→Bool}:∀ {n:Nat} {i:Int},allI p n i=true↔∀ j,i≤j→j<i+n→p j=true
 | 0,i=>⟨fun _ j h1 h2=>by omega,fun _=>rfl⟩
 | n+1,i=>by
  rw [allI,Bool.and_eq_true,allI_iff]
  constructor
  ·rintro ⟨h0,h⟩ j h1 h2
   by_cases e:j=i
   ·rw [e];exact h0
   ·exact h j (by omega) (by omega)
  ·intro h
   exact ⟨h i (by omega) (by omega),fun j h1 h2=>h j (by omega) (by omega)⟩
def firstI (p:Int→Bool):Nat→Int→Option Int
 | 0,_=>none
 | n+1,i=>bif p i then some i else firstI p n (i+1)
theorem forC_first {S R:Type} {f:Int→S→Option (Ctl S R)} (I:S→Prop) (p:Int→Bool) (r:Int→R):∀ (n:Nat) (i:Int) (s:S),I s →
  (∀ j s,i≤j→j<i+n→I s→∃ s',I s'∧f j s=some (bif p j then .brk (r j) else .next s')) →
  ∃ s',I s'∧forC f n i s=some (match firstI p n i with | some j=>.brk (r j) | none=>.next s')
 | 0,i,s,hs,h=>⟨s,hs,rfl⟩
 | n+1,i,s,hs,h=>by
  obtain ⟨s1,h1,e1⟩:=h i s (by omega) (by omega) hs
  rw [forC,e1,bsm,firstI]
  cases p i with
  | true=>exact ⟨s1,h1,rfl⟩
  | false=>exact forC_first I p r n (i+1) s1 h1 (fun j s k1 k2=>h j s (by omega) (by omega))
theorem forC_firstU {R:Type} {f:Int→Unit→Option (Ctl Unit R)} (p:Int→Bool) (r:Int→R) (n:Nat) (i:Int) (h:∀ j,i≤j→j<i+n→f j ()=some (bif p j then .brk (r j) else .next ())) :
  forC f n i ()=some (match firstI p n i with | some j=>.brk (r j) | none=>.next ()):=by
 obtain ⟨s,_,e⟩:=forC_first (fun _=>True) p r n i () trivial (fun j s h1 h2 _=>⟨(),trivial,h j h1 h2⟩)
 exact e
theorem allI_not (p:Int→Bool):∀ (n:Nat) (i:Int),allI (fun j=>!p j) n i=(firstI p n i).isNone
 | 0,i=>rfl
 | n+1,i=>by
  rw [allI,firstI,allI_not p n]
  cases p i<;>rfl
theorem roomB_ok {n b:Nat} (h:n*b≤140737488355328):roomB n b=true:=Nat.ble_eq_true_of_le h
theorem appL_ok {α:Type} {sz:Nat} {l m:List α} (h:(l++m).length*sz≤140737488355328):appL sz l m=some (l++m):=by
 unfold appL
 rw [roomB_ok h];rfl
theorem slcL_all {α:Type} (l:List α):slcL l 0 (l.length:Int)=some l:=by
 unfold slcL
 have:(decide ((0:Int)≤0)&&(decide ((0:Int)≤(l.length:Int))&&decide ((l.length:Int)≤(l.length:Int))))=true:=by simp
 rw [this];simp
theorem forS_inv {S:Type} {f:Int→S→Option S} (I:Int→S→Prop):∀ (n:Nat) (i:Int) (s:S),I i s→(∀ j s,i≤j→j<i+n→I j s→∃ s',f j s=some s'∧I (j+1) s')→∃ s',forS f n i s=some s'∧I (i+n) s'
 | 0,i,s,hs,h=>⟨s,rfl,by simpa using hs⟩
 | n+1,i,s,hs,h=>by
  obtain ⟨s1,e1,h1⟩:=h i s (by omega) (by omega) hs
  obtain ⟨s2,e2,h2⟩:=forS_inv I n (i+1) s1 h1 (fun j s k1 k2=>h j s (by omega) (by omega))
  refine ⟨s2,by rw [forS,e1,bsm,e2],?_⟩
  rw [show i+((n+1:Nat):Int)=i+1+(n:Int) by omega]
  exact h2
theorem ixN_nat {n i:Nat} (h:i<n):ixN n (i:Int)=some i:=by
 unfold ixN
 have:(decide (0≤(i:Int))&&Nat.blt (i:Int).toNat n)=true:=by simp [h,Nat.blt_eq]
 rw [this];simp
theorem mfd_append {K W:Type} (q:K→K→Bool) (k k':K) (w:W):∀ (m:List (K×W)) (i:Nat),(mfd q k (m++[(k',w)]) i).map (·.2)=match (mfd q k m i).map (·.2) with
  | some v=>some v
  | none=>bif q k k' then some w else none
 | [],i=>by
  simp only [List.nil_append,mfd]
  cases q k k'<;>rfl
 | p::m,i=>by
  simp only [List.cons_append,mfd]
  cases q k p.1 with
  | true=>rfl
  | false=>simp only [cond_false];exact mfd_append q k k' w m (i+1)
theorem mget_append {K W:Type} (q:K→K→Bool) (m:List (K×W)) (k k':K) (w:W):mget q (m++[(k',w)]) k=match mget q m k with
  | some v=>some v
  | none=>bif q k k' then some w else none:=mfd_append q k k' w m 0
end Go.Proofs.YtjooihelppcfkaaDoor
namespace Go.Proofs.YtjooihelppcfkaaDoor
open Go.Abs Go.Proofs.Tr
def okSpan (s:Span) (a c w:Int):Bool:=decide (a≤s.Low)&&decide (s.Low≤s.High)&&decide (s.High≤c)&&decide (wr (s.High - s.Low)≤w)
def okHank (x:HairHank):Bool:=okSpan x.Weight 1 60 4&&okSpan x.Shade 0 20 2
def okHorse (x:HairHorse):Bool:=rg x.Mane 1 30&&rg x.Tail 1 30&&rg x.Shade 0 25
def okH (b:HairBook):Bool:=decide ((b.Hanks.length:Int)≤4)&&decide ((b.Horses.length:Int)≤3)&&rg b.Dark 0 4&&rg b.Near 0 3&&rg b.Match 0 3&&b.Hanks.all okHank&&b.Horses.all okHorse
theorem p57 (n a c:Int):g97 n a c=some (rg n a c):=rfl
theorem p63 (s:Span) (a c w:Int):g98 s a c w=some (okSpan s a c w):=rfl
theorem p17_15 (i:Int) (x:HairHank) (s:Bool):g67_15 i x s=some (s&&okHank x):=by
 simp only [g67_15,p63,bsm,cs,okHank,Bool.cond_false_right,Bool.and_assoc]
theorem p17_31 (i:Int) (x:HairHorse) (s:Bool):g67_31 i x s=some (s&&okHorse x):=by
 simp only [g67_31,p57,bsm,cs,okHorse,Bool.cond_false_right,Bool.and_assoc]
theorem p17 (b:HairBook):g67 b=some (bif okH b then 0 else 60):=by
 unfold g67
 simp only [p57,bsm,cs,Bool.cond_false_right,eachS_all p17_15,eachS_all p17_31]
 have:∀ x:Bool,(bif !x then (60:Int) else 0)=bif x then 0 else 60:=by intro x;cases x<;>rfl
 rw [this]
 simp only [okH,Bool.and_assoc]
structure HankOk (x:HairHank):Prop where
 w:1≤x.Weight.Low∧x.Weight.Low≤x.Weight.High∧x.Weight.High≤60
 s:0≤x.Shade.Low∧x.Shade.Low≤x.Shade.High∧x.Shade.High≤20
structure OkH (b:HairBook):Prop where
 l4:b.Hanks.length≤5
 l3:b.Horses.length≤3
 dark:0≤b.Dark∧b.Dark≤4
 near:0≤b.Near∧b.Near≤3
 mat:0≤b.Match∧b.Match≤3
 hanks:∀ x,x∈b.Hanks→HankOk x
 horses:∀ x,x∈b.Horses→(1≤x.Mane∧x.Mane≤30)∧(1≤x.Tail∧x.Tail≤30)∧0≤x.Shade∧x.Shade≤25
theorem okH_of {b:HairBook} (h:okH b=true):OkH b:=by
 simp only [okH,Bool.and_eq_true,rg_iff,decide_eq_true_eq,List.all_eq_true] at h
 obtain ⟨⟨⟨⟨⟨⟨h1,h2⟩,h3⟩,h4⟩,h5⟩,h6⟩,h7⟩:=h
 refine ⟨by omega,by omega,h3,h4,h5,fun x hx=>?_,fun x hx=>?_⟩
 ·have:=h6 x hx
  simp only [okHank,okSpan,Bool.and_eq_true,decide_eq_true_eq] at this
  exact ⟨by omega,by omega⟩
 ·have:=h7 x hx
  simp only [okHorse,Bool.and_eq_true,rg_iff] at this
  omega
theorem q131_iff (x y:Hair_dye):q131 x y=true↔x=y:=by
 cases x;cases y
 simp [q131]
def shOf (b:HairBook) (h n:Int):Span:=match b.Hanks[h.toNat]? with
 | some x=>⟨x.Shade.Low+n,x.Shade.High+n⟩
 | none=>⟨0,0⟩
def ShK (b:HairBook) (k j:Int) (m:List (Hair_dye×Span)):Prop:=∀ h n,mget q131 m ⟨h,n⟩=bif (decide (0≤h)&&decide (h<k)&&decide (0≤n)&&decide (n≤b.Dark))||(decide (h=k)&&decide (0≤n)&&decide (n<j)) then some (shOf b h n) else none
theorem eachS_inv {α S:Type} {f:Int→α→S→Option S} (I:Nat→S→Prop):∀ (xs:List α) (i:Nat) (s:S),I i s→(∀ j x s,i≤j→xs[j - i]?=some x→I j s→∃ s',f (j:Int) x s=some s'∧I (j+1) s')→∃ s',eachS f xs (i:Int) s=some s'∧I (i+xs.length) s'
 | [],i,s,hs,h=>⟨s,rfl,by simpa using hs⟩
 | x::xs,i,s,hs,h=>by
  obtain ⟨s1,e1,h1⟩:=h i x s (Nat.le_refl _) (by simp) hs
  obtain ⟨s2,e2,h2⟩:=eachS_inv I xs (i+1) s1 h1 (fun j y s hj hy hI=>h j y s (by omega) (by
   have:j - i=(j - (i+1))+1:=by omega
   rw [this,List.getElem?_cons_succ];exact hy) hI)
  refine ⟨s2,?_,?_⟩
  ·rw [eachS,e1,bsm,show (i:Int)+1=((i+1:Nat):Int) by omega,e2]
  ·rw [List.length_cons,show i+(xs.length+1)=i+1+xs.length by omega];exact h2
theorem p80_8 {b:HairBook} (ok:OkH b) {k:Nat} {x:HairHank} (hx:b.Hanks[k]?=some x) {j:Int} (h0:0≤j) (h1:j≤b.Dark) {m:List (Hair_dye×Span)} (hm:ShK b k j m):∃ m',g111_8 (k:Int) x j m=some m'∧ShK b k (j+1) m':=by
 have hd:=ok.dark
 have hs:=(ok.hanks x (List.mem_of_getElem? hx)).s
 have hnone:mget q131 m ⟨(k:Int),j⟩=none:=by
  rw [hm]
  have:((decide (0≤(k:Int))&&decide ((k:Int)<(k:Int))&&decide (0≤j)&&decide (j≤b.Dark))||(decide ((k:Int)=(k:Int))&&decide (0≤j)&&decide (j<j)))=false:=by simp
  rw [this];rfl
 have hsh:shOf b (k:Int) j=⟨x.Shade.Low+j,x.Shade.High+j⟩:=by
  unfold shOf
  rw [Int.toNat_natCast,hx]
 refine ⟨m++[(⟨(k:Int),j⟩,⟨x.Shade.Low+j,x.Shade.High+j⟩)],?_,fun h n=>?_⟩
 ·unfold g111_8 mput
  rw [hnone,wr_in (by omega) (by omega),wr_in (by omega) (by omega)]
  rfl
 ·rw [mget_append]
  by_cases he:h=(k:Int)∧n=j
  ·obtain ⟨rfl,rfl⟩:=he
   rw [hnone]
   have hq:q131 ⟨(k:Int),n⟩ ⟨(k:Int),n⟩=true:=(q131_iff _ _).2 rfl
   have ht:((decide (0≤(k:Int))&&decide ((k:Int)<(k:Int))&&decide (0≤n)&&decide (n≤b.Dark))||(decide ((k:Int)=(k:Int))&&decide (0≤n)&&decide (n<n+1)))=true:=by
    simp;omega
   rw [ht,hsh]
   simp only [hq,cond_true]
  ·have hq:q131 ⟨h,n⟩ ⟨(k:Int),j⟩=false:=by
    cases hc:q131 ⟨h,n⟩ ⟨(k:Int),j⟩ with
    | false=>rfl
    | true=>
     have:=(q131_iff _ _).1 hc
     injection this with e1 e2
     exact absurd ⟨e1,e2⟩ he
   rw [hm,hq]
   have:(decide (h=(k:Int))&&decide (0≤n)&&decide (n<j))=(decide (h=(k:Int))&&decide (0≤n)&&decide (n<j+1)):=by
    rw [Bool.eq_iff_iff]
    simp only [Bool.and_eq_true,decide_eq_true_eq]
    constructor
    ·rintro ⟨⟨a1,a2⟩,a3⟩;exact ⟨⟨a1,a2⟩,by omega⟩
    ·rintro ⟨⟨a1,a2⟩,a3⟩
     refine ⟨⟨a1,a2⟩,?_⟩
     by_cases e:n=j
     ·exact absurd ⟨a1,e⟩ he
     ·omega
   rw [this]
   cases (decide (0≤h)&&decide (h<(k:Int))&&decide (0≤n)&&decide (n≤b.Dark))||(decide (h=(k:Int))&&decide (0≤n)&&decide (n<j+1))<;>rfl
def ShOk (b:HairBook) (m:List (Hair_dye×Span)):Prop:=∀ (h n:Int),0≤h→h<b.Hanks.length→0≤n→n≤b.Dark→mget q131 m ⟨h,n⟩=some (shOf b h n)
theorem p80 {b:HairBook} (ok:OkH b):∃ m,g111 b=some (b,m)∧ShOk b m:=by
 have hd:=ok.dark
 have e:wr (b.Dark+1)=b.Dark+1:=wr_in (by omega) (by omega)
 obtain ⟨m,em,hm⟩:=eachS_inv (f:=g111_3 b) (fun k m=>ShK b (k:Int) 0 m) b.Hanks 0 [] (fun h n=>by
  have:((decide (0≤h)&&decide (h<((0:Nat):Int))&&decide (0≤n)&&decide (n≤b.Dark))||(decide (h=((0:Nat):Int))&&decide (0≤n)&&decide (n<0)))=false:=by
   rw [Bool.eq_false_iff]
   intro hc
   simp only [Bool.or_eq_true,Bool.and_eq_true,decide_eq_true_eq] at hc
   omega
  rw [this];rfl) (fun k x m hk hx hm=>by
  rw [Nat.sub_zero] at hx
  obtain ⟨m',e',h'⟩:=forS_inv (f:=g111_8 (k:Int) x) (fun j m=>ShK b (k:Int) j m) (b.Dark+1 - 0).toNat 0 m hm (fun j s j1 j2 hs=>p80_8 ok hx j1 (by omega) hs)
  refine ⟨m',by unfold g111_3;rw [e,e',bsm],fun h n=>?_⟩
  rw [h']
  congr 1
  rw [Bool.eq_iff_iff]
  simp only [Bool.or_eq_true,Bool.and_eq_true,decide_eq_true_eq]
  omega)
 refine ⟨m,?_,fun h n h1 h2 h3 h4=>?_⟩
 ·unfold g111
  rw [show ((0:Nat):Int)=0 from rfl] at em
  rw [em,bsm]
 ·rw [hm]
  have:((decide (0≤h)&&decide (h<((0+b.Hanks.length:Nat):Int))&&decide (0≤n)&&decide (n≤b.Dark))||(decide (h=((0+b.Hanks.length:Nat):Int))&&decide (0≤n)&&decide (n<0)))=true:=by
   simp only [Bool.or_eq_true,Bool.and_eq_true,decide_eq_true_eq]
   omega
  rw [this];rfl
def nearB (b:HairBook) (want:Int) (s:Span):Bool:=decide (s.High - want≤b.Near)&&decide (want - s.Low≤b.Near)
def mB (b:HairBook) (want mane tail m t:Int):Bool:=nearB b want (shOf b mane m)&&nearB b want (shOf b tail t) &&
 bif decide (mane=tail) then decide (-b.Match≤m - t)&&decide (m - t≤b.Match) else decide ((shOf b mane m).High - (shOf b tail t).Low≤b.Match)&&decide ((shOf b tail t).High - (shOf b mane m).Low≤b.Match)
theorem sh_bd {b:HairBook} (ok:OkH b) {h n:Int} (h1:0≤h) (h2:h<b.Hanks.length) (h3:0≤n) (h4:n≤b.Dark):0≤(shOf b h n).Low∧(shOf b h n).Low≤(shOf b h n).High∧(shOf b h n).High≤24:=by
 have hd:=ok.dark
 have hlt:h.toNat<b.Hanks.length:=by omega
 have hs:=(ok.hanks _ (List.getElem_mem hlt)).s
 unfold shOf
 rw [List.getElem?_eq_getElem hlt]
 simp only
 omega
theorem p100 {b:HairBook} (ok:OkH b) {mf:List (Hair_dye×Span)} (hmf:ShOk b mf) {horse:Int} {p:HairHorse} (hp:ixL b.Horses horse=some p) (hw:0≤p.Shade∧p.Shade≤25) {mane tail m t:Int} (a1:0≤mane) (a2:mane<b.Hanks.length) (b1:0≤tail) (b2:tail<b.Hanks.length)
  (m1:0≤m) (m2:m≤b.Dark) (t1:0≤t) (t2:t≤b.Dark):g131 b mf horse ⟨mane,m⟩ ⟨tail,t⟩=some (mB b p.Shade mane tail m t):=by
 have hd:=ok.dark
 have hn:=ok.near
 have hma:=ok.mat
 have hs:=sh_bd ok a1 a2 m1 m2
 have ht:=sh_bd ok b1 b2 t1 t2
 unfold g131
 rw [hp,bsm,hmf mane m a1 a2 m1 m2,hmf tail t b1 b2 t1 t2]
 simp only [Option.getD_some]
 generalize hS:shOf b mane m=s at hs
 generalize hT:shOf b tail t=u at ht
 have g3:∀ a x y z,g134 a [x,y,z]=some (max (max (max a x) y) z):=fun _ _ _ _=>rfl
 have g1:∀ a x,g134 a [x]=some (max a x):=fun _ _=>rfl
 rw [wr_in (show -9223372036854775808≤s.High - p.Shade by omega) (by omega),wr_in (show -9223372036854775808≤p.Shade - s.Low by omega) (by omega),wr_in (show -9223372036854775808≤u.High - p.Shade by omega) (by omega),wr_in (show -9223372036854775808≤p.Shade - u.Low by omega) (by omega),g3,bsm,
  wr_in (show -9223372036854775808≤m - t by omega) (by omega),wr_in (show -9223372036854775808≤-b.Match by omega) (by omega),wr_in (show -9223372036854775808≤s.High - u.Low by omega) (by omega),wr_in (show -9223372036854775808≤u.High - s.Low by omega) (by omega),g1,p57]
 simp only [bsm,cs]
 unfold mB nearB
 rw [hS,hT]
 by_cases hnear:b.Near<max (max (max (s.High - p.Shade) (p.Shade - s.Low)) (u.High - p.Shade)) (p.Shade - u.Low)
 ·rw [decide_eq_true hnear,cond_true]
  have:(decide (s.High - p.Shade≤b.Near)&&decide (p.Shade - s.Low≤b.Near)&&(decide (u.High - p.Shade≤b.Near)&&decide (p.Shade - u.Low≤b.Near)))=false:=by
   rw [Bool.eq_false_iff]
   intro hc
   simp only [Bool.and_eq_true,decide_eq_true_eq] at hc
   omega
  rw [this];rfl
 ·rw [decide_eq_false hnear,cond_false]
  have:(decide (s.High - p.Shade≤b.Near)&&decide (p.Shade - s.Low≤b.Near)&&(decide (u.High - p.Shade≤b.Near)&&decide (p.Shade - u.Low≤b.Near)))=true:=by
   simp only [Bool.and_eq_true,decide_eq_true_eq]
   omega
  rw [this,Bool.true_and]
  by_cases he:mane=tail
  ·rw [decide_eq_true he]
   simp only [cond_true]
   by_cases hmt:m=t
   ·subst he;subst hmt
    have e1:(false != ((mane==mane)&&((m==m)&&true)))=true:=by simp
    have e2:(decide (-b.Match≤m - m)&&decide (m - m≤b.Match))=true:=by
     simp only [Bool.and_eq_true,decide_eq_true_eq];omega
    rw [e1,e2];rfl
   ·have e1:(false != ((mane==tail)&&((m==t)&&true)))=false:=by
     have:(m==t)=false:=by simpa using hmt
     rw [this];simp
    rw [e1];rfl
  ·rw [decide_eq_false he]
   simp only [cond_false]
   congr 1
   rw [Bool.eq_iff_iff]
   simp only [Bool.and_eq_true,decide_eq_true_eq]
   omega
def dyesF (b:HairBook) (want mane tail:Int):Option (Int×Int):=(firstI (fun m=>(firstI (fun t=>mB b want mane tail m t) (b.Dark+1).toNat 0).isSome) (b.Dark+1).toNat 0).map fun m=>(m,(firstI (fun t=>mB b want mane tail m t) (b.Dark+1).toNat 0).getD 0)
theorem p59 {b:HairBook} (ok:OkH b) {mf:List (Hair_dye×Span)} (hmf:ShOk b mf) {horse:Int} {p:HairHorse} (hp:ixL b.Horses horse=some p) (hw:0≤p.Shade∧p.Shade≤25) {mane tail:Int} (a1:0≤mane) (a2:mane<b.Hanks.length) (b1:0≤tail) (b2:tail<b.Hanks.length) :
  g128 b mf horse mane tail=some (match dyesF b p.Shade mane tail with | some x=>(⟨mane,x.1⟩,⟨tail,x.2⟩,true) | none=>(⟨0,0⟩,⟨0,0⟩,false)):=by
 have hd:=ok.dark
 have e:wr (b.Dark+1)=b.Dark+1:=wr_in (by omega) (by omega)
 unfold g128
 rw [e,Int.sub_zero]
 have:=forC_firstU (f:=g128_2 b mf horse mane tail) (fun m=>(firstI (fun t=>mB b p.Shade mane tail m t) (b.Dark+1).toNat 0).isSome) (fun m=>((⟨mane,m⟩:Hair_dye),(⟨tail,(firstI (fun t=>mB b p.Shade mane tail m t) (b.Dark+1).toNat 0).getD 0⟩:Hair_dye),true)) (b.Dark+1).toNat 0 (fun m m1 m2=>by
  have:=forC_firstU (f:=g128_6 b mf horse mane tail m) (fun t=>mB b p.Shade mane tail m t) (fun t=>.brk ((⟨mane,m⟩:Hair_dye),(⟨tail,t⟩:Hair_dye),true)) (b.Dark+1).toNat 0 (fun t t1 t2=>by
   unfold g128_6
   rw [p100 ok hmf hp hw a1 a2 b1 b2 m1 (by omega) t1 (by omega),bsm,cs])
  unfold g128_2
  rw [e,Int.sub_zero,this]
  cases firstI (fun t=>mB b p.Shade mane tail m t) (b.Dark+1).toNat 0<;>rfl)
 rw [this]
 unfold dyesF
 cases firstI (fun m=>(firstI (fun t=>mB b p.Shade mane tail m t) (b.Dark+1).toNat 0).isSome) (b.Dark+1).toNat 0<;>rfl
end Go.Proofs.YtjooihelppcfkaaDoor
namespace Go.Proofs.YtjooihelppcfkaaDoor
open Go.Abs Go.Proofs.Tr
theorem p50 (n a c:Int):g44 n a c=some (rg n a c):=rfl
end Go.Proofs.YtjooihelppcfkaaDoor
namespace Go.Proofs.YtjooihelppcfkaaDoor
open Go.Abs Go.Proofs.Tr
def partN (b:HairBook) (v:Nat):Int:=match b.Horses[v / 2]? with
 | some h=>bif decide (v % 2=0) then h.Mane else h.Tail
 | none=>0
def cutS (b:HairBook):List Int→Nat→Int→Int
 | [],_,_=>0
 | p::ps,v,k=>(bif decide (p=k) then partN b v else 0)+cutS b ps (v+1) k
theorem partN_bd {b:HairBook} (ok:OkH b) (v:Nat):0≤partN b v∧partN b v≤30:=by
 unfold partN
 cases hh:b.Horses[v / 2]? with
 | none=>simp
 | some h=>
  obtain ⟨h1,h2,_⟩:=ok.horses h (List.mem_of_getElem? hh)
  simp only
  cases decide (v % 2=0)<;>simp only [cond_true,cond_false]<;>omega
theorem cutS_bd {b:HairBook} (ok:OkH b) (k:Int):∀ (ps:List Int) (v:Nat),0≤cutS b ps v k∧cutS b ps v k≤30*ps.length
 | [],v=>by simp [cutS]
 | p::ps,v=>by
  have h1:=partN_bd ok v
  have h2:=cutS_bd ok k ps (v+1)
  rw [cutS,List.length_cons]
  cases decide (p=k)<;>simp only [cond_true,cond_false]<;>omega
def planB (b:HairBook) (plan:List Int):Bool:=decide ((plan.length:Int)=2*(b.Horses.length:Int))&&plan.all fun n=>rg n 0 ((b.Hanks.length:Int) - 1)
structure PlanOk (b:HairBook) (plan:List Int):Prop where
 len:plan.length=2*b.Horses.length
 rng:∀ n,n∈plan→0≤n∧n<b.Hanks.length
theorem plan_of {b:HairBook} {plan:List Int} (h:planB b plan=true):PlanOk b plan:=by
 simp only [planB,Bool.and_eq_true,decide_eq_true_eq,List.all_eq_true,rg_iff] at h
 exact ⟨by omega,fun n hn=>by have:=h.2 n hn;omega⟩
theorem tdiv_nat (v:Nat):(v:Int).tdiv 2=((v / 2:Nat):Int):=rfl
theorem tmod_nat (v:Nat):(v:Int).tmod 2=((v % 2:Nat):Int):=rfl
theorem aset_get (w:Nat→Int) (j k:Nat) (x:Int):aset w j x k=if k=j then x else w k:=by
 unfold aset
 by_cases h:k=j
 ·subst h;simp
 ·rw [if_neg h]
  cases hb:Nat.beq k j with
  | true=>exact absurd (Nat.eq_of_beq_eq_true hb) h
  | false=>rfl
def fitK (b:HairBook) (plan:List Int):Bool:=b.Hanks.zipIdx.all fun y=>!decide (y.1.Weight.Low<cutS b plan 0 (y.2:Int))
def dyeK (b:HairBook) (plan:List Int):Bool:=b.Horses.zipIdx.all fun y=>(dyesF b y.1.Shade ((plan[2*y.2]?).getD 0) ((plan[2*y.2+1]?).getD 0)).isSome
def worksB (b:HairBook) (plan:List Int):Bool:=fitK b plan&&dyeK b plan
theorem eachC_zip {α R:Type} {f:Int→α→Unit→Option (Ctl Unit R)} (p:α×Nat→Bool) (r:R):∀ (xs:List α) (i:Nat),(∀ (j:Nat) x,i≤j→xs[j - i]?=some x→f (j:Int) x ()=some (bif p (x,j) then .next () else .brk r))→eachC f xs (i:Int) ()=some (bif (xs.zipIdx i).all p then .next () else .brk r)
 | [],i,h=>rfl
 | x::xs,i,h=>by
  rw [eachC,h i x (Nat.le_refl _) (by simp),bsm,List.zipIdx_cons,List.all_cons]
  cases p (x,i) with
  | false=>rfl
  | true=>
   simp only [cond_true,Bool.true_and]
   rw [show (i:Int)+1=((i+1:Nat):Int) by omega]
   exact eachC_zip p r xs (i+1) (fun j y hj hy=>h j y (by omega) (by
    have:j - i=(j - (i+1))+1:=by omega
    rw [this,List.getElem?_cons_succ];exact hy))
end Go.Proofs.YtjooihelppcfkaaDoor
namespace Go.Proofs.YtjooihelppcfkaaDoor
open Go Go.Abs Go.Proofs.Tr
theorem cutS_snoc (b:HairBook) (k p:Int):∀ (ps:List Int) (v:Nat),cutS b (ps++[p]) v k=cutS b ps v k+bif decide (p=k) then partN b (v+ps.length) else 0
 | [],v=>by simp [cutS]
 | q::ps,v=>by
  rw [List.cons_append,cutS,cutS_snoc b k p ps (v+1),cutS,List.length_cons,show v+1+ps.length=v+(ps.length+1) by omega]
  omega
end Go.Proofs.YtjooihelppcfkaaDoor
namespace Go.Proofs.YtjooihelppcfkaaDoor
open Go.Abs Go.Proofs.Tr
def runY {A S:Type} (c:A→S→Option (S×Bool)):List A→S→Option (S×Bool)
 | [],s=>some (s,true)
 | a::l,s=>(c a s).bind fun r=>bif r.2 then runY c l r.1 else some (r.1,false)
theorem runY_append {A S:Type} (c:A→S→Option (S×Bool)):∀ (l m:List A) (s:S),runY c (l++m) s=(runY c l s).bind fun r=>bif r.2 then runY c m r.1 else some (r.1,false)
 | [],m,s=>by simp [runY]
 | a::l,m,s=>by
  rw [List.cons_append,runY,runY]
  cases c a s with
  | none=>rfl
  | some r=>
   obtain ⟨s',go⟩:=r
   cases go with
   | false=>rfl
   | true=>exact runY_append c l m s'
theorem runY_stop {A S X:Type} {B:A→S→Option (Ctl S X)} (r:X) (l:List A) (s:S) (h:∀ a s,B a s=some (.brk r)):runY (fun a s=>rndC B a s) l (.next s)=some (match l with | []=>(.next s,true) | _::_=>(.brk r,false)):=by
 cases l with
 | nil=>rfl
 | cons a l=>
  rw [runY]
  simp only [rndC,h a s,bsm,isNext]
  rfl
def tr (K:Nat) (ok:List Int→Bool):Nat→List Int→List (List Int)
 | 0,p=>bif ok p then [p] else []
 | n+1,p=>bif ok p then (List.range' 0 K).flatMap fun (k:Nat)=>tr K ok n (p++[(k:Int)]) else []
def allp (K:Nat):Nat→List Int→List (List Int)
 | 0,p=>[p]
 | n+1,p=>(List.range' 0 K).flatMap fun (k:Nat)=>allp K n (p++[(k:Int)])
theorem mem_allp {K:Nat} {q:List Int}:∀ {n:Nat} {p:List Int},q∈allp K n p↔∃ l,q=p++l∧l.length=n∧∀ x,x∈l→0≤x∧x<K
 | 0,p=>by
  rw [allp,List.mem_singleton]
  constructor
  ·rintro rfl;exact ⟨[],by simp,rfl,by simp⟩
  ·rintro ⟨l,h1,h2,h3⟩
   rw [List.length_eq_zero_iff.1 h2] at h1;simpa using h1
 | n+1,p=>by
  rw [allp,List.mem_flatMap]
  constructor
  ·rintro ⟨k,hk,hq⟩
   rw [List.mem_range'_1] at hk
   obtain ⟨l,h1,h2,h3⟩:=mem_allp.1 hq
   refine ⟨(k:Int)::l,by rw [h1];simp,by simp [h2],fun x hx=>?_⟩
   rcases List.mem_cons.1 hx with rfl | hx
   ·omega
   ·exact h3 x hx
  ·rintro ⟨l,h1,h2,h3⟩
   cases l with
   | nil=>simp at h2
   | cons x l=>
    have hx:=h3 x (by simp)
    refine ⟨x.toNat,by rw [List.mem_range'_1];omega,mem_allp.2 ⟨l,?_,by simpa using h2,fun y hy=>h3 y (by simp [hy])⟩⟩
    rw [show ((x.toNat:Nat):Int)=x by omega,h1];simp
theorem allp_pre {K:Nat} {ok:List Int→Bool} (hok:∀ p k,ok (p++[k])=true→ok p=true) {q:List Int}:∀ {n:Nat} {p:List Int},q∈allp K n p→ok q=true→ok p=true
 | 0,p,h,hq=>by
  rw [allp,List.mem_singleton] at h
  rw [← h];exact hq
 | n+1,p,h,hq=>by
  rw [allp,List.mem_flatMap] at h
  obtain ⟨k,_,h⟩:=h
  exact hok _ _ (allp_pre hok h hq)
theorem tr_eq {K:Nat} {ok:List Int→Bool} (hok:∀ p k,ok (p++[k])=true→ok p=true):∀ (n:Nat) (p:List Int),tr K ok n p=(allp K n p).filter ok
 | 0,p=>by
  rw [tr,allp,List.filter_cons]
  cases ok p<;>rfl
 | n+1,p=>by
  rw [tr]
  cases hp:ok p with
  | true=>
   rw [cond_true,allp,List.filter_flatMap]
   congr 1
   funext k
   exact tr_eq hok n _
  | false=>
   rw [cond_false,Eq.comm,List.filter_eq_nil_iff]
   intro q hq hc
   have:=allp_pre hok hq hc
   rw [hp] at this;cases this
theorem eachC_run {α A S:Type} {f:Int→α→S→Option (Ctl S (Bool×S))} (c:A→S→Option (S×Bool)) (L:Nat→List A):∀ (xs:List α) (i:Nat) (s:S),(∀ (j:Nat) x s,i≤j→xs[j - i]?=some x→f (j:Int) x s=(runY c (L j) s).map fun r=>bif r.2 then .next r.1 else .brk (false,r.1)) →
  eachC f xs (i:Int) s=(runY c ((List.range' i xs.length).flatMap L) s).map fun r=>bif r.2 then .next r.1 else .brk (false,r.1)
 | [],i,s,h=>rfl
 | x::xs,i,s,h=>by
  rw [eachC,h i x s (Nat.le_refl _) (by simp),List.length_cons,List.range'_succ,List.flatMap_cons,runY_append]
  cases runY c (L i) s with
  | none=>rfl
  | some r=>
   obtain ⟨s',go⟩:=r
   cases go with
   | false=>rfl
   | true=>
    simp only [Option.map_some,bsm,cond_true]
    rw [show (i:Int)+1=((i+1:Nat):Int) by omega]
    exact eachC_run c L xs (i+1) s' (fun j y s hj hy=>h j y s (by omega) (by
     have:j - i=(j - (i+1))+1:=by omega
     rw [this,List.getElem?_cons_succ];exact hy))
def shH (b:HairBook) (i:Nat):Int:=match b.Horses[i]? with | some x=>x.Shade | none=>0
def dyeQ (b:HairBook) (p:List Int):Bool:=(List.range (p.length / 2)).all fun i=>(dyesF b (shH b i) ((p[2*i]?).getD 0) ((p[2*i+1]?).getD 0)).isSome
def fitP (b:HairBook) (by_:Span→Int) (p:List Int):Bool:=b.Hanks.zipIdx.all fun y=>!decide (by_ y.1.Weight<cutS b p 0 (y.2:Int))
def okP (b:HairBook) (by_:Span→Int) (p:List Int):Bool:=fitP b by_ p&&dyeQ b p
theorem fitP_iff {b:HairBook} {by_:Span→Int} {p:List Int}:fitP b by_ p=true↔∀ (k:Nat) x,b.Hanks[k]?=some x→cutS b p 0 (k:Int)≤by_ x.Weight:=by
 unfold fitP
 rw [List.all_eq_true]
 constructor
 ·intro h k x hx
  have:=h (x,k) (by
   rw [List.mem_iff_getElem?]
   exact ⟨k,by rw [List.getElem?_zipIdx,hx];simp⟩)
  simpa using this
 ·intro h y hy
  rw [List.mem_iff_getElem?] at hy
  obtain ⟨k,hk⟩:=hy
  rw [List.getElem?_zipIdx] at hk
  cases hx:b.Hanks[k]? with
  | none=>rw [hx] at hk;cases hk
  | some x=>
   rw [hx] at hk
   simp only [Option.map_some,Option.some.injEq,Nat.zero_add] at hk
   subst hk
   have:=h k x hx
   simpa using this
theorem all_congr {α:Type} {f g:α→Bool}:∀ {l:List α},(∀ x,x∈l→f x=g x)→l.all f=l.all g
 | [],h=>rfl
 | x::l,h=>by rw [List.all_cons,List.all_cons,h x (by simp),all_congr (fun y hy=>h y (by simp [hy]))]
theorem dyeQ_snoc (b:HairBook) (p:List Int) (k:Int):dyeQ b (p++[k])=(dyeQ b p&&bif decide (p.length % 2=1) then (dyesF b (shH b (p.length / 2)) ((p[p.length - 1]?).getD 0) k).isSome else true):=by
 have hc:∀ i,i<p.length / 2→(dyesF b (shH b i) (((p++[k])[2*i]?).getD 0) (((p++[k])[2*i+1]?).getD 0)).isSome=(dyesF b (shH b i) ((p[2*i]?).getD 0) ((p[2*i+1]?).getD 0)).isSome:=fun i hi=>by
  rw [List.getElem?_append_left (by omega),List.getElem?_append_left (by omega)]
 unfold dyeQ
 rw [List.length_append,List.length_singleton]
 by_cases h:p.length % 2=1
 ·rw [decide_eq_true h,cond_true,show (p.length+1) / 2=p.length / 2+1 by omega,List.range_succ,List.all_append,all_congr (fun i hi=>hc i (List.mem_range.1 hi))]
  congr 1
  rw [List.all_cons,List.all_nil,Bool.and_true,List.getElem?_append_left (by omega),List.getElem?_append_right (by omega),show 2*(p.length / 2)+1 - p.length=0 by omega,show 2*(p.length / 2)=p.length - 1 by omega]
  rfl
 ·rw [decide_eq_false h,cond_false,Bool.and_true,show (p.length+1) / 2=p.length / 2 by omega,all_congr (fun i hi=>hc i (List.mem_range.1 hi))]
theorem fitP_snoc {b:HairBook} (ok:OkH b) {by_:Span→Int} {p:List Int} (hp:fitP b by_ p=true) {k:Nat} {x:HairHank} (hx:b.Hanks[k]?=some x):fitP b by_ (p++[(k:Int)])=!decide (by_ x.Weight<cutS b p 0 (k:Int)+partN b p.length):=by
 rw [fitP_iff] at hp
 rw [Bool.eq_iff_iff,fitP_iff]
 simp only [Bool.not_eq_true',decide_eq_false_iff_not,Int.not_lt]
 constructor
 ·intro h
  have:=h k x hx
  rw [cutS_snoc,decide_eq_true rfl,cond_true,Nat.zero_add] at this
  exact this
 ·intro h j y hy
  rw [cutS_snoc,Nat.zero_add]
  by_cases e:(k:Int)=(j:Int)
  ·have:j=k:=by omega
   subst this
   rw [decide_eq_true rfl,cond_true]
   rw [hx] at hy;cases hy;exact h
  ·rw [decide_eq_false e,cond_false]
   have:=hp j y hy
   omega
theorem okP_snoc {b:HairBook} (ok:OkH b) {by_:Span→Int} {p:List Int} (hp:okP b by_ p=true) {k:Nat} {x:HairHank} (hx:b.Hanks[k]?=some x):okP b by_ (p++[(k:Int)])=(!decide (by_ x.Weight<cutS b p 0 (k:Int)+partN b p.length)&&bif decide (p.length % 2=1) then (dyesF b (shH b (p.length / 2)) ((p[p.length - 1]?).getD 0) (k:Int)).isSome else true):=by
 unfold okP at hp ⊢
 rw [Bool.and_eq_true] at hp
 rw [fitP_snoc ok hp.1 hx,dyeQ_snoc,hp.2,Bool.true_and]
theorem fitP_pre {b:HairBook} (ok:OkH b) {by_:Span→Int} {p:List Int} {k:Int} (h:fitP b by_ (p++[k])=true):fitP b by_ p=true:=by
 rw [fitP_iff] at h ⊢
 intro j x hx
 have:=h j x hx
 rw [cutS_snoc,Nat.zero_add] at this
 have hb:=partN_bd ok p.length
 cases hd:decide (k=(j:Int))<;>rw [hd] at this<;>simp only [cond_true,cond_false] at this<;>omega
theorem okP_pre {b:HairBook} (ok:OkH b) {by_:Span→Int} (p:List Int) (k:Int) (h:okP b by_ (p++[k])=true):okP b by_ p=true:=by
 unfold okP at h ⊢
 rw [Bool.and_eq_true] at h ⊢
 refine ⟨fitP_pre ok h.1,?_⟩
 rw [dyeQ_snoc,Bool.and_eq_true] at h
 exact h.2.1
def cutF (b:HairBook) (p:List Int):Nat→Int:=fun k=>cutS b p 0 (k:Int)
theorem p112 {S:Type} (c:List Int→(Nat→Int)→S→Option (S×Bool)) {b:HairBook} (ok:OkH b) {mf:List (Hair_dye×Span)} (hmf:ShOk b mf):∀ (n fuel:Nat) (p:List Int) (s:S),p.length+n=2*b.Horses.length→n+1≤fuel→(∀ x,x∈p→0≤x∧x<b.Hanks.length)→okP b (·.Low) p=true →
  g125 c fuel p (cutF b p) b mf b mf s=(runY (fun q s=>c q (cutF b q) s) (tr b.Hanks.length (okP b (·.Low)) n p) s).map fun r=>(r.2,r.1)
 | 0,fuel,p,s,hl,hf,hr,ho=>by
  have h3:=ok.l3
  obtain ⟨fuel,rfl⟩:∃ j,fuel=j+1:=⟨fuel - 1,by omega⟩
  rw [g125,wr_in (by omega) (by omega),decide_eq_true (show (p.length:Int)=2*(b.Horses.length:Int) by omega),cond_true,tr,ho,cond_true,runY]
  cases c p (cutF b p) s with
  | none=>rfl
  | some r=>obtain ⟨s',go⟩:=r;cases go<;>rfl
 | n+1,fuel,p,s,hl,hf,hr,ho=>by
  have h3:=ok.l3
  have h4:=ok.l4
  obtain ⟨fuel,rfl⟩:∃ j,fuel=j+1:=⟨fuel - 1,by omega⟩
  have hlt:p.length / 2<b.Horses.length:=by omega
  have hpn:=partN_bd ok p.length
  have hH:=ok.horses _ (List.getElem_mem hlt)
  rw [g125,wr_in (by omega) (by omega),decide_eq_false (show ¬ (p.length:Int)=2*(b.Horses.length:Int) by omega),cond_false,tdiv_nat,tmod_nat,ixN_nat (show p.length % 2<2 by omega)]
  rw [wr_in (show -9223372036854775808≤((p.length / 2:Nat):Int) by omega) (by omega)]
  rw [ixL_nat,List.getElem?_eq_getElem hlt]
  have key:∀ {X:Option Int} {F:Int→Option (Bool×S)} {R:Option (Bool×S)},X=some (partN b p.length)→F (partN b p.length)=R→X.bind F=R:=by
   intro X F R h1 h2;rw [h1];exact h2
  refine key ?_ ?_
  ·unfold partN
   rw [List.getElem?_eq_getElem hlt]
   have hm:p.length % 2=0∨p.length % 2=1:=by omega
   rcases hm with hm | hm<;>rw [hm]<;>rfl
  have hstep:∀ (j:Nat) (x:HairHank) (s:S),0≤j→b.Hanks[j - 0]?=some x→g125_16 (g125 c fuel) p (cutF b p) b mf b mf (partN b p.length) (j:Int) x s=(runY (fun q s=>c q (cutF b q) s) (tr b.Hanks.length (okP b (·.Low)) n (p++[(j:Int)])) s).map fun r=>bif r.2 then .next r.1 else .brk (false,r.1):=fun j x s _ hx=>by
   rw [Nat.sub_zero] at hx
   have hj:=(List.getElem?_eq_some_iff.1 hx).1
   have hcut:=cutS_bd ok (j:Int) p 0
   have hsn:=okP_snoc ok ho hx
   have hshH:shH b (p.length / 2)=b.Horses[p.length / 2].Shade:=by
    unfold shH;rw [List.getElem?_eq_getElem hlt]
   unfold g125_16
   rw [ixN_nat (show j<5 by omega),bsm]
   simp only [g127,bsm]
   rw [show cutF b p j=cutS b p 0 (j:Int) from rfl,wr_in (show -9223372036854775808≤cutS b p 0 (j:Int)+partN b p.length by omega) (by omega)]
   have hgo:okP b (·.Low) (p++[(j:Int)])=true→(slcL p 0 (p.length:Int)).bind (fun l=>(appL 8 l [(j:Int)]).bind fun l1=>(g125 c fuel l1 (aset (cutF b p) j (cutS b p 0 (j:Int)+partN b p.length)) b mf b mf s).bind fun (r:Bool×S)=>bif (!r.1) then some (.brk (false,r.2)) else some (.next r.2))=(runY (fun q s=>c q (cutF b q) s) (tr b.Hanks.length (okP b (·.Low)) n (p++[(j:Int)])) s).map fun r=>bif r.2 then (.next r.1:Ctl S (Bool×S)) else .brk (false,r.1):=fun hk=>by
    rw [slcL_all,bsm,appL_ok (by rw [List.length_append,List.length_singleton];omega),bsm]
    have hw:aset (cutF b p) j (cutS b p 0 (j:Int)+partN b p.length)=cutF b (p++[(j:Int)]):=by
     funext i
     rw [aset_get]
     unfold cutF
     rw [cutS_snoc,Nat.zero_add]
     by_cases e:i=j
     ·subst e;rw [if_pos rfl,decide_eq_true rfl,cond_true]
     ·rw [if_neg e,decide_eq_false (by omega),cond_false,Int.add_zero]
    rw [hw,p112 c ok hmf n fuel (p++[(j:Int)]) s (by rw [List.length_append,List.length_singleton];omega) (by omega) (fun x hx=>by
     rcases List.mem_append.1 hx with hx | hx
     ·exact hr x hx
     ·rw [List.mem_singleton] at hx;omega) hk]
    cases runY (fun q s=>c q (cutF b q) s) (tr b.Hanks.length (okP b (·.Low)) n (p++[(j:Int)])) s with
    | none=>rfl
    | some r=>obtain ⟨s',go⟩:=r;cases go<;>rfl
   have hno:okP b (·.Low) (p++[(j:Int)])=false→(some (.next s):Option (Ctl S (Bool×S)))=(runY (fun q s=>c q (cutF b q) s) (tr b.Hanks.length (okP b (·.Low)) n (p++[(j:Int)])) s).map fun r=>bif r.2 then .next r.1 else .brk (false,r.1):=fun hk=>by
    have:tr b.Hanks.length (okP b (·.Low)) n (p++[(j:Int)])=[]:=by
     cases n<;>rw [tr,hk]<;>rfl
    rw [this];rfl
   by_cases h1:x.Weight.Low<cutS b p 0 (j:Int)+partN b p.length
   ·rw [decide_eq_true h1] at hsn ⊢
    simp only [cond_true,bindC]
    exact hno (by rw [hsn];rfl)
   ·rw [decide_eq_false h1] at hsn ⊢
    simp only [cond_false,Bool.not_false,Bool.true_and] at hsn ⊢
    by_cases h2:p.length % 2=1
    ·have hlast:p.length - 1<p.length:=by omega
     have hlr:=hr _ (List.getElem_mem hlast)
     rw [decide_eq_true h2,cond_true,List.getElem?_eq_getElem hlast,Option.getD_some,hshH] at hsn
     rw [tmod_nat,tdiv_nat,wr_in (show -9223372036854775808≤((p.length / 2:Nat):Int) by omega) (by omega),decide_eq_true (show ((p.length % 2:Nat):Int)=1 by omega),cond_true,wr_in (show -9223372036854775808≤(p.length:Int) - 1 by omega) (by omega),show (p.length:Int) - 1=((p.length - 1:Nat):Int) by omega,ixL_nat,List.getElem?_eq_getElem hlast,bsm,g121,p59 ok hmf (horse:=((p.length / 2:Nat):Int)) (p:=b.Horses[p.length / 2]) (by rw [ixL_nat,List.getElem?_eq_getElem hlt]) hH.2.2 hlr.1 hlr.2 (show (0:Int)≤(j:Int) by omega) (by omega)]
     cases hd:dyesF b b.Horses[p.length / 2].Shade p[p.length - 1] (j:Int) with
     | none=>
      rw [hd] at hsn
      simp only [bsm,Bool.not_false,cond_true,bindC]
      exact hno hsn
     | some d=>
      rw [hd] at hsn
      simp only [bsm,Bool.not_true,cond_false,bindC]
      exact hgo hsn
    ·rw [decide_eq_false h2,cond_false] at hsn
     rw [tmod_nat,decide_eq_false (show ¬ ((p.length % 2:Nat):Int)=1 by omega),cond_false]
     simp only [bindC,bsm]
     exact hgo hsn
  have:=eachC_run (f:=g125_16 (g125 c fuel) p (cutF b p) b mf b mf (partN b p.length)) (fun q s=>c q (cutF b q) s) (fun j=>tr b.Hanks.length (okP b (·.Low)) n (p++[(j:Int)])) b.Hanks 0 s hstep
  rw [show ((0:Nat):Int)=0 from rfl] at this
  rw [this,tr,ho,cond_true]
  cases runY (fun q s=>c q (cutF b q) s) ((List.range' 0 b.Hanks.length).flatMap fun (k:Nat)=>tr b.Hanks.length (okP b (·.Low)) n (p++[(k:Int)])) s with
  | none=>rfl
  | some r=>obtain ⟨s',go⟩:=r;cases go<;>rfl
def plansL (b:HairBook) (by_:Span→Int):List (List Int):=(allp b.Hanks.length (2*b.Horses.length) []).filter (okP b by_)
theorem okP_nil {b:HairBook} {by_:Span→Int} (h:∀ x,x∈b.Hanks→0≤by_ x.Weight):okP b by_ []=true:=by
 unfold okP
 rw [Bool.and_eq_true]
 refine ⟨fitP_iff.2 fun k x hx=>?_,rfl⟩
 have:=h x (List.mem_of_getElem? hx)
 simp only [cutS];exact this
theorem cutF_nil (b:HairBook):arrL [(0:Int),0,0,0,0]=cutF b []:=by
 funext k
 match k with
 | 0=>rfl
 | 1=>rfl
 | 2=>rfl
 | 3=>rfl
 | 4=>rfl
 | k+5=>rfl
theorem p111 {S:Type} (c:List Int→(Nat→Int)→S→Option (S×Bool)) {b:HairBook} (ok:OkH b) {mf:List (Hair_dye×Span)} (hmf:ShOk b mf) (s:S):g124 c b mf b mf s=(runY (fun q s=>c q (cutF b q) s) (plansL b (·.Low)) s).map (·.1):=by
 have h3:=ok.l3
 unfold g124 g126
 rw [bsm,cutF_nil b,p112 c ok hmf (2*b.Horses.length) 1000 [] s (by simp) (by omega) (by simp) (okP_nil fun x hx=>by have:=(ok.hanks x hx).w;omega),tr_eq (okP_pre ok)]
 unfold plansL
 cases runY (fun q s=>c q (cutF b q) s) ((allp b.Hanks.length (2*b.Horses.length) []).filter (okP b (·.Low))) s<;>rfl
def servedB (b:HairBook):Bool:=!(plansL b (·.Low)).isEmpty
theorem p84 {b:HairBook} (ok:OkH b) {mf:List (Hair_dye×Span)} (hmf:ShOk b mf):g112 b mf=some (servedB b):=by
 unfold g112 g120 g119
 rw [bsm,bsm]
 simp only
 rw [p111 _ ok hmf]
 have:=runY_stop (B:=fun q u=>g112_r5 (q,cutF b q) u) (X:=Unit) () (plansL b (·.Low)) () (fun a s=>rfl)
 unfold servedB
 have e:runY (fun q s=>rndC g112_r5 (q,cutF b q) s) (plansL b (·.Low)) (.next ())=runY (fun a s=>rndC (fun q u=>g112_r5 (q,cutF b q) u) a s) (plansL b (·.Low)) (.next ()):=by
  congr 1
 rw [e,this]
 cases plansL b (·.Low)<;>rfl
theorem dyeQ_full {b:HairBook} {p:List Int} (hp:p.length=2*b.Horses.length):dyeQ b p=dyeK b p:=by
 unfold dyeQ dyeK
 rw [hp,show 2*b.Horses.length / 2=b.Horses.length by omega,Bool.eq_iff_iff,List.all_eq_true,List.all_eq_true]
 constructor
 ·intro h y hy
  rw [List.mem_iff_getElem?] at hy
  obtain ⟨k,hk⟩:=hy
  rw [List.getElem?_zipIdx] at hk
  cases hx:b.Horses[k]? with
  | none=>rw [hx] at hk;cases hk
  | some x=>
   rw [hx] at hk
   simp only [Option.map_some,Option.some.injEq,Nat.zero_add] at hk
   subst hk
   have:=h k (List.mem_range.2 (List.getElem?_eq_some_iff.1 hx).1)
   unfold shH at this
   rw [hx] at this
   exact this
 ·intro h k hk
  have hlt:=List.mem_range.1 hk
  have:=h (b.Horses[k],k) (by
   rw [List.mem_iff_getElem?]
   exact ⟨k,by rw [List.getElem?_zipIdx,List.getElem?_eq_getElem hlt];simp⟩)
  unfold shH
  rw [List.getElem?_eq_getElem hlt]
  exact this
theorem planB_iff {b:HairBook} {p:List Int}:planB b p=true↔p.length=2*b.Horses.length∧∀ n,n∈p→0≤n∧n<b.Hanks.length:=by
 constructor
 ·intro h;have:=plan_of h;exact ⟨this.len,this.rng⟩
 ·rintro ⟨h1,h2⟩
  simp only [planB,Bool.and_eq_true,decide_eq_true_eq,List.all_eq_true,rg_iff]
  exact ⟨by omega,fun n hn=>by have:=h2 n hn;omega⟩
theorem mem_allP {b:HairBook} {p:List Int}:p∈allp b.Hanks.length (2*b.Horses.length) []↔planB b p=true:=by
 rw [mem_allp,planB_iff]
 constructor
 ·rintro ⟨l,h1,h2,h3⟩
  rw [List.nil_append] at h1
  subst h1;exact ⟨h2,h3⟩
 ·rintro ⟨h1,h2⟩;exact ⟨p,rfl,h1,h2⟩
theorem mem_plans {b:HairBook} {p:List Int}:p∈plansL b (·.Low)↔planB b p=true∧worksB b p=true:=by
 unfold plansL
 rw [List.mem_filter,mem_allP]
 constructor
 ·rintro ⟨h1,h2⟩
  refine ⟨h1,?_⟩
  unfold okP at h2
  rw [dyeQ_full (planB_iff.1 h1).1] at h2
  exact h2
 ·rintro ⟨h1,h2⟩
  refine ⟨h1,?_⟩
  unfold okP
  rw [dyeQ_full (planB_iff.1 h1).1]
  exact h2
theorem served_iff {b:HairBook}:servedB b=true↔∃ p,planB b p=true∧worksB b p=true:=by
 unfold servedB
 constructor
 ·intro h
  cases hl:plansL b (·.Low) with
  | nil=>rw [hl] at h;cases h
  | cons p l=>exact ⟨p,mem_plans.1 (by rw [hl];simp)⟩
 ·rintro ⟨p,hp⟩
  cases hl:plansL b (·.Low) with
  | nil=>have:=mem_plans.2 hp;rw [hl] at this;cases this
  | cons q l=>rfl
end Go.Proofs.YtjooihelppcfkaaDoor
namespace Go.Proofs.YtjooihelppcfkaaDoor
open Go.Abs Go.Proofs.Tr
theorem p18_loop1 (b:HairBook) (hl:b.Hanks.length<900) (s:Bool):whileC (g69_15 b) 1000 (s,0)=some (s&&b.Hanks.all okHank):=by
 have h0:∀ i,g69_15 b (false,i)=some (.brk false):=fun i=>by simp [g69_15,bsm]
 cases s with
 | false=>rw [whileC,h0];rfl
 | true=>
  have:=while_all (f:=g69_15 b) (p:=okHank) (xs:=b.Hanks) hl h0 (by simp [g69_15,bsm]) (fun i x hx=>by
   have hi:i<b.Hanks.length:=(List.getElem?_eq_some_iff.1 hx).1
   simp only [g69_15,cond_true,bsm,ixL_nat,hx,g70,cs,Bool.cond_false_right]
   have:decide ((i:Int)<(b.Hanks.length:Int))=true:=by simp [hi]
   rw [this,wr_nat (by omega)]
   simp only [cond_true]
   congr 3
   unfold okHank okSpan
   simp only [Bool.and_assoc]) b.Hanks.length 0 (by omega) 1000 (by omega)
  simpa using this
theorem p18_loop2 (b:HairBook) (hl:b.Horses.length<900) (s:Bool):whileC (g69_31 b) 1000 (s,0)=some (s&&b.Horses.all okHorse):=by
 have h0:∀ i,g69_31 b (false,i)=some (.brk false):=fun i=>by simp [g69_31,bsm]
 cases s with
 | false=>rw [whileC,h0];rfl
 | true=>
  have:=while_all (f:=g69_31 b) (p:=okHorse) (xs:=b.Horses) hl h0 (by simp [g69_31,bsm]) (fun i x hx=>by
   have hi:i<b.Horses.length:=(List.getElem?_eq_some_iff.1 hx).1
   simp only [g69_31,cond_true,bsm,ixL_nat,hx,p50,cs,Bool.cond_false_right]
   have:decide ((i:Int)<(b.Horses.length:Int))=true:=by simp [hi]
   rw [this,wr_nat (by omega)]
   simp only [cond_true]
   rfl) b.Horses.length 0 (by omega) 1000 (by omega)
  simpa using this
theorem p18 (b:HairBook):g69 b=some (bif okH b then 0 else 60):=by
 unfold g69
 simp only [p50,bsm,cs,Bool.cond_false_right]
 have hfin:∀ x:Bool,(bif !x then (some 60:Option Int) else some 0)=some (bif x then 0 else 60):=by intro x;cases x<;>rfl
 have e1:whileC (g69_15 b) 1000 (false,0)=some false:=by rw [whileC];simp [g69_15,bsm]
 have e2:whileC (g69_31 b) 1000 (false,0)=some false:=by rw [whileC];simp [g69_31,bsm]
 cases hv:(decide ((b.Hanks.length:Int)≤4)&&decide ((b.Horses.length:Int)≤3)&&rg b.Dark 0 4&&rg b.Near 0 3&&rg b.Match 0 3) with
 | false=>
  simp only [e1,e2,bsm]
  unfold okH
  rw [hv];rfl
 | true=>
  have hv':=hv
  simp only [Bool.and_eq_true,decide_eq_true_eq] at hv'
  obtain ⟨⟨⟨⟨q1,q2⟩,_⟩,_⟩,_⟩:=hv'
  rw [p18_loop1 b (by omega)]
  simp only [bsm]
  rw [p18_loop2 b (by omega)]
  simp only [bsm]
  unfold okH
  rw [hv]
  cases true&&b.Hanks.all okHank&&b.Horses.all okHorse<;>rfl
def matS (b:HairBook) (want m t:Int):Bool:=decide (m - want≤b.Near)&&decide (want - m≤b.Near)&&(decide (t - want≤b.Near)&&decide (want - t≤b.Near))&&(decide (m - t≤b.Match)&&decide (t - m≤b.Match))
theorem p114 {b:HairBook} {want m t:Int} (h1:-1000≤want∧want≤1000) (h2:-1000≤m∧m≤1000) (h3:-1000≤t∧t≤1000):g136 b want m t=some (matS b want m t):=by
 have h117:∀ u v:Int,-1000≤u∧u≤1000→-1000≤v∧v≤1000→g137 u v=some (max (u - v) (v - u)):=fun u v h1 h2=>by
  unfold g137
  rw [wr_in (by omega) (by omega),wr_in (by omega) (by omega)]
 have hmx:∀ u v n:Int,decide (max (u - v) (v - u)≤n)=(decide (u - v≤n)&&decide (v - u≤n)):=fun u v n=>by
  rw [Bool.eq_iff_iff]
  simp only [Bool.and_eq_true,decide_eq_true_eq]
  omega
 unfold g136 matS
 rw [h117 m want h2 h1,h117 t want h3 h1,h117 m t h2 h3]
 simp only [bsm,hmx,cs,Bool.cond_false_right,Bool.and_assoc]
theorem p101 {b:HairBook} (ok:OkH b) {horse mane tail x y:Int} {p:HairHorse} (hp:ixL b.Horses horse=some p) (hw:0≤p.Shade∧p.Shade≤25) (a1:0≤mane) (a2:mane<b.Hanks.length) (b1:0≤tail) (b2:tail<b.Hanks.length) (x1:0≤x) (x2:x≤b.Dark) (y1:0≤y) (y2:y≤b.Dark) :
  g135 b horse mane tail (arrL [x,y])=some (mB b p.Shade mane tail x y):=by
 have hd:=ok.dark
 have hn:=ok.near
 have hma:=ok.mat
 have m1:mane.toNat<b.Hanks.length:=by omega
 have t1:tail.toNat<b.Hanks.length:=by omega
 have sm:=(ok.hanks _ (List.getElem_mem m1)).s
 have st:=(ok.hanks _ (List.getElem_mem t1)).s
 have em:ixL b.Hanks mane=some b.Hanks[mane.toNat]:=by
  unfold ixL;rw [decide_eq_true a1,cond_true,List.getElem?_eq_getElem m1]
 have et:ixL b.Hanks tail=some b.Hanks[tail.toNat]:=by
  unfold ixL;rw [decide_eq_true b1,cond_true,List.getElem?_eq_getElem t1]
 have hsm:shOf b mane x=⟨b.Hanks[mane.toNat].Shade.Low+x,b.Hanks[mane.toNat].Shade.High+x⟩:=by
  unfold shOf;rw [List.getElem?_eq_getElem m1]
 have hst:shOf b tail y=⟨b.Hanks[tail.toNat].Shade.Low+y,b.Hanks[tail.toNat].Shade.High+y⟩:=by
  unfold shOf;rw [List.getElem?_eq_getElem t1]
 have hsame:mane=tail→b.Hanks[mane.toNat]=b.Hanks[tail.toNat]:=fun h=>by subst h;rfl
 unfold g135
 rw [hp,bsm,em,bsm,et,bsm]
 generalize hM:b.Hanks[mane.toNat]=M at *
 generalize hT:b.Hanks[tail.toNat]=T at *
 rw [must_t (show decide (M.Shade.High+1≤9223372036854775807)=true by rw [decide_eq_true_eq];omega),bsm,must_t (show decide (-9223372036854775808≤M.Shade.Low)=true by rw [decide_eq_true_eq];omega),bsm]
 have hin:∀ n,M.Shade.Low≤n→n≤M.Shade.High→g135_6 b mane tail (arrL [x,y]) p T n ()=some (bif !allI (fun m=>(decide (mane=tail)&&!decide (n=m))||matS b p.Shade (n+x) (m+y)) (T.Shade.High+1 - T.Shade.Low).toNat T.Shade.Low then .brk false else .next ()):=fun n n1 n2=>by
  have:=forC_firstU (f:=g135_10 b mane tail (arrL [x,y]) p n) (fun m=>!((decide (mane=tail)&&!decide (n=m))||matS b p.Shade (n+x) (m+y))) (fun _=>(.brk false:Ctl Unit Bool)) (T.Shade.High+1 - T.Shade.Low).toNat T.Shade.Low (fun m k1 k2=>by
   unfold g135_10
   rw [show arrL [x,y] 0=x from rfl,show arrL [x,y] 1=y from rfl,wr_in (show -9223372036854775808≤n+x by omega) (by omega),wr_in (show -9223372036854775808≤m+y by omega) (by omega),p114 (by omega) (by omega) (by omega)]
   by_cases e:mane=tail
   ·by_cases e2:n=m
    ·rw [decide_eq_true e,decide_eq_true e2]
     cases matS b p.Shade (n+x) (m+y)<;>simp [bsm]
    ·rw [decide_eq_true e,decide_eq_false e2]
     simp [bsm,e]
   ·rw [decide_eq_false e]
    cases matS b p.Shade (n+x) (m+y)<;>simp [bsm,e])
  unfold g135_6
  rw [must_t (show decide (T.Shade.High+1≤9223372036854775807)=true by rw [decide_eq_true_eq];omega),bsm,must_t (show decide (-9223372036854775808≤T.Shade.Low)=true by rw [decide_eq_true_eq];omega),bsm,this]
  have ha:=allI_not (fun m=>!((decide (mane=tail)&&!decide (n=m))||matS b p.Shade (n+x) (m+y))) (T.Shade.High+1 - T.Shade.Low).toNat T.Shade.Low
  simp only [Bool.not_not] at ha
  rw [ha]
  cases firstI (fun m=>!((decide (mane=tail)&&!decide (n=m))||matS b p.Shade (n+x) (m+y))) (T.Shade.High+1 - T.Shade.Low).toNat T.Shade.Low<;>rfl
 have:=forC_firstU (f:=g135_6 b mane tail (arrL [x,y]) p T) (fun n=>!allI (fun m=>(decide (mane=tail)&&!decide (n=m))||matS b p.Shade (n+x) (m+y)) (T.Shade.High+1 - T.Shade.Low).toNat T.Shade.Low) (fun _=>false) (M.Shade.High+1 - M.Shade.Low).toNat M.Shade.Low (fun n k1 k2=>hin n k1 (by omega))
 rw [this]
 have ha:=allI_not (fun n=>!allI (fun m=>(decide (mane=tail)&&!decide (n=m))||matS b p.Shade (n+x) (m+y)) (T.Shade.High+1 - T.Shade.Low).toNat T.Shade.Low) (M.Shade.High+1 - M.Shade.Low).toNat M.Shade.Low
 simp only [Bool.not_not] at ha
 have key:allI (fun n=>allI (fun m=>(decide (mane=tail)&&!decide (n=m))||matS b p.Shade (n+x) (m+y)) (T.Shade.High+1 - T.Shade.Low).toNat T.Shade.Low) (M.Shade.High+1 - M.Shade.Low).toNat M.Shade.Low=mB b p.Shade mane tail x y:=by
  rw [Bool.eq_iff_iff,allI_iff]
  unfold mB nearB
  rw [hsm,hst]
  by_cases e:mane=tail
  ·have hMT:=hsame e
   subst hMT
   rw [decide_eq_true e]
   simp only [cond_true,Bool.true_and,Bool.and_eq_true,decide_eq_true_eq]
   constructor
   ·intro h
    have h1:=allI_iff.1 (h M.Shade.Low (by omega) (by omega)) M.Shade.Low (by omega) (by omega)
    have h2:=allI_iff.1 (h M.Shade.High (by omega) (by omega)) M.Shade.High (by omega) (by omega)
    simp [matS] at h1 h2
    omega
   ·intro h n n1 n2
    rw [allI_iff]
    intro m k1 k2
    by_cases e2:n=m
    ·subst e2
     simp [matS]
     omega
    ·simp [e2]
  ·rw [decide_eq_false e]
   simp only [cond_false,Bool.false_and,Bool.false_or,Bool.and_eq_true,decide_eq_true_eq]
   constructor
   ·intro h
    have h1:=allI_iff.1 (h M.Shade.Low (by omega) (by omega)) T.Shade.Low (by omega) (by omega)
    have h2:=allI_iff.1 (h M.Shade.High (by omega) (by omega)) T.Shade.High (by omega) (by omega)
    have h3:=allI_iff.1 (h M.Shade.Low (by omega) (by omega)) T.Shade.High (by omega) (by omega)
    have h4:=allI_iff.1 (h M.Shade.High (by omega) (by omega)) T.Shade.Low (by omega) (by omega)
    simp [matS] at h1 h2 h3 h4
    omega
   ·intro h n n1 n2
    rw [allI_iff]
    intro m k1 k2
    simp [matS]
    omega
 rw [← key,ha]
 cases firstI (fun n=>!allI (fun m=>(decide (mane=tail)&&!decide (n=m))||matS b p.Shade (n+x) (m+y)) (T.Shade.High+1 - T.Shade.Low).toNat T.Shade.Low) (M.Shade.High+1 - M.Shade.Low).toNat M.Shade.Low<;>rfl
theorem p62 {b:HairBook} (ok:OkH b) {horse mane tail:Int} {p:HairHorse} (hp:ixL b.Horses horse=some p) (hw:0≤p.Shade∧p.Shade≤25) (a1:0≤mane) (a2:mane<b.Hanks.length) (b1:0≤tail) (b2:tail<b.Hanks.length) :
  g133 b horse mane tail=some (match dyesF b p.Shade mane tail with | some d=>(arrL [d.1,d.2],true) | none=>(arrL [0,0],false)):=by
 have hd:=ok.dark
 have em:must (decide (b.Dark+1≤9223372036854775807))=some ():=must_t (by rw [decide_eq_true_eq];omega)
 have:=forC_firstU (f:=g133_2 b horse mane tail) (fun m=>(firstI (fun t=>mB b p.Shade mane tail m t) (b.Dark+1).toNat 0).isSome) (fun m=>(arrL [m,(firstI (fun t=>mB b p.Shade mane tail m t) (b.Dark+1).toNat 0).getD 0],true)) (b.Dark+1).toNat 0 (fun m m1 m2=>by
  have:=forC_firstU (f:=g133_6 b horse mane tail m) (fun t=>mB b p.Shade mane tail m t) (fun t=>(.brk (arrL [m,t],true):Ctl Unit ((Nat→Int)×Bool))) (b.Dark+1).toNat 0 (fun t t1 t2=>by
   unfold g133_6
   rw [p101 ok hp hw a1 a2 b1 b2 m1 (by omega) t1 (by omega),bsm,cs])
  unfold g133_2
  rw [em,bsm,Int.sub_zero,this]
  cases firstI (fun t=>mB b p.Shade mane tail m t) (b.Dark+1).toNat 0<;>rfl)
 unfold g133
 rw [em,bsm,Int.sub_zero,this]
 unfold dyesF
 cases firstI (fun m=>(firstI (fun t=>mB b p.Shade mane tail m t) (b.Dark+1).toNat 0).isSome) (b.Dark+1).toNat 0<;>rfl
theorem p106_loop {b:HairBook} (ok:OkH b) (hank:Int):∀ (ps:List Int) (v:Nat) (n c:Int),v+ps.length≤2*b.Horses.length→0≤n→n≤c→c+30*ps.length≤1000→eachS (g132_2 b hank) ps (v:Int) n=some (n+cutS b ps v hank)
 | [],v,n,c,hl,h0,h1,h2=>by simp [eachS,cutS]
 | p::ps,v,n,c,hl,h0,h1,h2=>by
  simp only [List.length_cons] at hl h2
  have h3:=ok.l3
  have hpn:=partN_bd ok v
  have hlt:v / 2<b.Horses.length:=by omega
  have hstep:g132_2 b hank (v:Int) p n=some (n+bif decide (p=hank) then partN b v else 0):=by
   unfold g132_2
   rw [tdiv_nat,tmod_nat,wr_in (by omega) (by omega),ixL_nat,List.getElem?_eq_getElem hlt,bsm]
   unfold partN at hpn ⊢
   rw [List.getElem?_eq_getElem hlt] at hpn ⊢
   simp only at hpn ⊢
   by_cases e:p=hank
   ·rw [decide_eq_true e]
    have hm:v % 2=0∨v % 2=1:=by omega
    rcases hm with hm | hm
    ·rw [hm] at hpn ⊢
     simp at hpn ⊢
     exact wr_in (by omega) (by omega)
    ·rw [hm] at hpn ⊢
     simp at hpn ⊢
     exact wr_in (by omega) (by omega)
   ·rw [decide_eq_false e]
    simp [bsm]
  have hb:0≤(bif decide (p=hank) then partN b v else 0)∧(bif decide (p=hank) then partN b v else 0)≤30:=by
   cases decide (p=hank)<;>simp only [cond_true,cond_false]<;>omega
  rw [eachS,hstep,bsm,show (v:Int)+1=((v+1:Nat):Int) by omega,p106_loop ok hank ps (v+1) _ (c+30) (by omega) (by omega) (by omega) (by omega),cutS,Int.add_assoc]
theorem p106 {b:HairBook} (ok:OkH b) {plan:List Int} (hl:plan.length≤2*b.Horses.length) (hank:Int):g132 b plan hank=some (cutS b plan 0 hank):=by
 have h3:=ok.l3
 have:=p106_loop ok hank plan 0 0 0 (by omega) (by omega) (by omega) (by omega)
 rw [show ((0:Nat):Int)=0 from rfl] at this
 unfold g132
 rw [this,bsm,Int.zero_add]
theorem p104 {b:HairBook} (ok:OkH b) {plan:List Int} (hl:plan.length≤2*b.Horses.length):g129 b plan false=some (fitP b (·.Low) plan):=by
 have:=eachC_zip (f:=g129_2 b plan false) (fun y=>!decide (y.1.Weight.Low<cutS b plan 0 (y.2:Int))) false b.Hanks 0 (fun j x hj hx=>by
  unfold g129_2
  rw [p106 ok hl]
  simp only [cond_false,bsm]
  cases decide (x.Weight.Low<cutS b plan 0 (j:Int))<;>rfl)
 rw [show ((0:Nat):Int)=0 from rfl] at this
 unfold g129
 rw [this]
 unfold fitP
 cases b.Hanks.zipIdx.all fun y=>!decide (y.1.Weight.Low<cutS b plan 0 (y.2:Int))<;>rfl
theorem p69 {b:HairBook} (ok:OkH b) {plan:List Int} (hp:PlanOk b plan):g130 b plan=some (worksB b plan):=by
 have h3:=ok.l3
 have hl:=hp.len
 have l2:=eachC_zip (f:=g130_2 b plan) (fun y=>(dyesF b y.1.Shade ((plan[2*y.2]?).getD 0) ((plan[2*y.2+1]?).getD 0)).isSome) false b.Horses 0 (fun j x hj hx=>by
  rw [Nat.sub_zero] at hx
  have hlt:=(List.getElem?_eq_some_iff.1 hx).1
  have i1:2*j<plan.length:=by omega
  have i2:2*j+1<plan.length:=by omega
  have r1:=hp.rng _ (List.getElem_mem i1)
  have r2:=hp.rng _ (List.getElem_mem i2)
  have hws:=(ok.horses x (List.mem_of_getElem? hx)).2.2
  unfold g130_2
  rw [wr_in (show -9223372036854775808≤2*(j:Int) by omega) (by omega),wr_in (show -9223372036854775808≤2*(j:Int)+1 by omega) (by omega),show 2*(j:Int)=((2*j:Nat):Int) by omega,show ((2*j:Nat):Int)+1=((2*j+1:Nat):Int) by omega,
   ixL_nat,ixL_nat,List.getElem?_eq_getElem i1,List.getElem?_eq_getElem i2]
  simp only [bsm]
  rw [p62 ok (horse:=(j:Int)) (p:=x) (by rw [ixL_nat];exact hx) hws (by omega) (by omega) (by omega) (by omega)]
  simp only [bsm,List.getElem?_eq_getElem i1,List.getElem?_eq_getElem i2,Option.getD_some]
  cases dyesF b x.Shade plan[2*j] plan[2*j+1]<;>rfl)
 rw [show ((0:Nat):Int)=0 from rfl] at l2
 unfold g130
 rw [l2,p104 ok (by omega)]
 unfold worksB dyeK
 rw [show fitP b (·.Low) plan=fitK b plan from rfl]
 cases b.Horses.zipIdx.all (fun y=>(dyesF b y.1.Shade ((plan[2*y.2]?).getD 0) ((plan[2*y.2+1]?).getD 0)).isSome) with
 | false=>simp [bindC]
 | true=>simp [bindC,bsm]
theorem p96_loop (n:Int):∀ (l:List Int) (i:Int),0≤i→∃ c,eachC (g41_2 n) l i ()=some c∧((n∈l∧∃ j,c=.brk j∧0≤j)∨(¬ n∈l∧c=.next ()))
 | [],i,h=>⟨_,rfl,.inr ⟨by simp,rfl⟩⟩
 | x::l,i,h=>by
  rw [eachC]
  by_cases e:x=n
  ·refine ⟨.brk i,?_,.inl ⟨by simp [e],i,rfl,h⟩⟩
   simp [g41_2,e,bsm]
  ·obtain ⟨c,h1,h2⟩:=p96_loop n l (i+1) (by omega)
   refine ⟨c,?_,?_⟩
   ·simpa [g41_2,e,bsm] using h1
   ·have:n∈x::l↔n∈l:=by simp [show ¬ n=x from fun h=>e h.symm]
    rw [this];exact h2
theorem p96 (l:List Int) (n:Int):∃ j,g41 l n=some j∧(0≤j↔n∈l):=by
 obtain ⟨c,h1,h2⟩:=p96_loop n l 0 (by omega)
 unfold g41
 rw [h1]
 rcases h2 with ⟨h2,j,rfl,h3⟩ | ⟨h2,rfl⟩
 ·exact ⟨j,rfl,fun _=>h2,fun _=>h3⟩
 ·exact ⟨-1,rfl,fun h=>by omega,fun h=>absurd h h2⟩
end Go.Proofs.YtjooihelppcfkaaDoor
set_option maxRecDepth 100000
namespace Go.Proofs.YtjooihelppcfkaaDoor
open Go Go.Abs Go.Proofs.Tr
def LT (H s:Nat):List Int:=(g74 (s:Int) (H:Int)).getD []
def rk (H s:Nat):Nat:=((List.range (2 ^ H)).filter fun t=>g114 (LT H t) (LT H s)==some true).length
def keepL (xs:List HairHorse) (l:List Int):List HairHorse:=(xs.zipIdx.filter fun y=>!decide ((y.2:Int)∈l)).map (·.1)
def cmpP (l best:List Int):Option Bool:=bif (decide ((best.length:Int)<(l.length:Int))) then (some true) else (bif (decide ((l.length:Int)=(best.length:Int))) then ((g110 l best).bind fun r0_3=>some (decide (0≤r0_3))) else (some false))
theorem fact48:((List.range 4).all fun T=>(List.range (2 ^ T)).all fun s=>g74 (s:Int) (T:Int)==some (LT T s))=true:=by kernel_rfl
theorem fact49:((List.range 4).all fun T=>(List.range (2 ^ T)).all fun s=>(List.range (2 ^ T)).all fun t=>g114 (LT T s) (LT T t)==some (decide (rk T s<rk T t)))=true:=by kernel_rfl
theorem factC:((List.range 4).all fun T=>(List.range (2 ^ T)).all fun s=>(List.range (2 ^ T)).all fun t=>cmpP (LT T s) (LT T t)==some (!decide (rk T s<rk T t)))=true:=by kernel_rfl
theorem factS:((List.range 4).all fun T=>shl64 1 (T:Int)==((2 ^ T:Nat):Int))=true:=by kernel_rfl
theorem factZ:((List.range 4).all fun T=>(LT T 0==[])&&(rk T 0==0)&&((LT T (2 ^ T - 1)).length==T)&&((List.range (2 ^ T)).all fun s=>(s==0)||!((LT T s).length==0)))=true:=by kernel_rfl
theorem all2 {P:Nat→Nat→Bool} (h:((List.range 4).all fun T=>(List.range (2 ^ T)).all fun s=>P T s)=true) {T s:Nat} (hT:T≤3) (hs:s<2 ^ T):P T s=true:=by
 rw [List.all_eq_true] at h
 have:=h T (List.mem_range.2 (by omega))
 rw [List.all_eq_true] at this
 exact this s (List.mem_range.2 hs)
theorem all3 {P:Nat→Nat→Nat→Bool} (h:((List.range 4).all fun T=>(List.range (2 ^ T)).all fun s=>(List.range (2 ^ T)).all fun t=>P T s t)=true) {T s t:Nat} (hT:T≤3) (hs:s<2 ^ T) (ht:t<2 ^ T):P T s t=true:=by
 have:=all2 h hT hs
 rw [List.all_eq_true] at this
 exact this t (List.mem_range.2 ht)
theorem f48 {T s:Nat} (hT:T≤3) (hs:s<2 ^ T):g74 (s:Int) (T:Int)=some (LT T s):=by simpa using all2 fact48 hT hs
theorem f49 {T s t:Nat} (hT:T≤3) (hs:s<2 ^ T) (ht:t<2 ^ T):g114 (LT T s) (LT T t)=some (decide (rk T s<rk T t)):=by
 have:=all3 fact49 hT hs ht
 rw [beq_iff_eq] at this;exact this
theorem fC {T s t:Nat} (hT:T≤3) (hs:s<2 ^ T) (ht:t<2 ^ T):cmpP (LT T s) (LT T t)=some (!decide (rk T s<rk T t)):=by
 have:=all3 factC hT hs ht
 rw [beq_iff_eq] at this;exact this
theorem fS {T:Nat} (hT:T≤3):shl64 1 (T:Int)=((2 ^ T:Nat):Int):=by
 have:=factS
 rw [List.all_eq_true] at this
 have:=this T (List.mem_range.2 (by omega))
 rw [beq_iff_eq] at this;exact this
theorem fz0 {T:Nat} (hT:T≤3):LT T 0=[]∧rk T 0=0∧(LT T (2 ^ T - 1)).length=T∧∀ s,s<2 ^ T→(LT T s).length=0→s=0:=by
 have:=factZ
 rw [List.all_eq_true] at this
 have:=this T (List.mem_range.2 (by omega))
 rw [Bool.and_eq_true,Bool.and_eq_true,Bool.and_eq_true,beq_iff_eq,beq_iff_eq,beq_iff_eq,List.all_eq_true] at this
 obtain ⟨⟨⟨h1,h2⟩,h3⟩,h4⟩:=this
 refine ⟨h1,h2,h3,fun s hs h=>?_⟩
 have:=h4 s (List.mem_range.2 hs)
 rw [Bool.or_eq_true,beq_iff_eq,h] at this
 simpa using this
theorem pow_pos' (T:Nat):1≤2 ^ T:=Nat.one_le_two_pow
theorem pow_le' {T:Nat} (hT:T≤3):2 ^ T≤8:=Nat.pow_le_pow_right (by decide) hT
theorem ks0_0:eachS (g91_14 0) ([]:List HairHorse) 0 (([],[]):List Int×List HairHorse)=some (LT 0 0,keepL [] (LT 0 0)):=by kernel_rfl
theorem kl0_0:(keepL [] (LT 0 0)).length+(LT 0 0).length=0:=by kernel_rfl
theorem ks1_0 (a:HairHorse):eachS (g91_14 0) ([a]:List HairHorse) 0 (([],[]):List Int×List HairHorse)=some (LT 1 0,keepL [a] (LT 1 0)):=by kernel_rfl
theorem kl1_0 (a:HairHorse):(keepL [a] (LT 1 0)).length+(LT 1 0).length=1:=by kernel_rfl
theorem ks1_1 (a:HairHorse):eachS (g91_14 1) ([a]:List HairHorse) 0 (([],[]):List Int×List HairHorse)=some (LT 1 1,keepL [a] (LT 1 1)):=by kernel_rfl
theorem kl1_1 (a:HairHorse):(keepL [a] (LT 1 1)).length+(LT 1 1).length=1:=by kernel_rfl
theorem ks2_0 (a b:HairHorse):eachS (g91_14 0) ([a,b]:List HairHorse) 0 (([],[]):List Int×List HairHorse)=some (LT 2 0,keepL [a,b] (LT 2 0)):=by kernel_rfl
theorem kl2_0 (a b:HairHorse):(keepL [a,b] (LT 2 0)).length+(LT 2 0).length=2:=by kernel_rfl
theorem ks2_1 (a b:HairHorse):eachS (g91_14 1) ([a,b]:List HairHorse) 0 (([],[]):List Int×List HairHorse)=some (LT 2 1,keepL [a,b] (LT 2 1)):=by kernel_rfl
theorem kl2_1 (a b:HairHorse):(keepL [a,b] (LT 2 1)).length+(LT 2 1).length=2:=by kernel_rfl
theorem ks2_2 (a b:HairHorse):eachS (g91_14 2) ([a,b]:List HairHorse) 0 (([],[]):List Int×List HairHorse)=some (LT 2 2,keepL [a,b] (LT 2 2)):=by kernel_rfl
theorem kl2_2 (a b:HairHorse):(keepL [a,b] (LT 2 2)).length+(LT 2 2).length=2:=by kernel_rfl
theorem ks2_3 (a b:HairHorse):eachS (g91_14 3) ([a,b]:List HairHorse) 0 (([],[]):List Int×List HairHorse)=some (LT 2 3,keepL [a,b] (LT 2 3)):=by kernel_rfl
theorem kl2_3 (a b:HairHorse):(keepL [a,b] (LT 2 3)).length+(LT 2 3).length=2:=by kernel_rfl
theorem ks3_0 (a b c:HairHorse):eachS (g91_14 0) ([a,b,c]:List HairHorse) 0 (([],[]):List Int×List HairHorse)=some (LT 3 0,keepL [a,b,c] (LT 3 0)):=by kernel_rfl
theorem kl3_0 (a b c:HairHorse):(keepL [a,b,c] (LT 3 0)).length+(LT 3 0).length=3:=by kernel_rfl
theorem ks3_1 (a b c:HairHorse):eachS (g91_14 1) ([a,b,c]:List HairHorse) 0 (([],[]):List Int×List HairHorse)=some (LT 3 1,keepL [a,b,c] (LT 3 1)):=by kernel_rfl
theorem kl3_1 (a b c:HairHorse):(keepL [a,b,c] (LT 3 1)).length+(LT 3 1).length=3:=by kernel_rfl
theorem ks3_2 (a b c:HairHorse):eachS (g91_14 2) ([a,b,c]:List HairHorse) 0 (([],[]):List Int×List HairHorse)=some (LT 3 2,keepL [a,b,c] (LT 3 2)):=by kernel_rfl
theorem kl3_2 (a b c:HairHorse):(keepL [a,b,c] (LT 3 2)).length+(LT 3 2).length=3:=by kernel_rfl
theorem ks3_3 (a b c:HairHorse):eachS (g91_14 3) ([a,b,c]:List HairHorse) 0 (([],[]):List Int×List HairHorse)=some (LT 3 3,keepL [a,b,c] (LT 3 3)):=by kernel_rfl
theorem kl3_3 (a b c:HairHorse):(keepL [a,b,c] (LT 3 3)).length+(LT 3 3).length=3:=by kernel_rfl
theorem ks3_4 (a b c:HairHorse):eachS (g91_14 4) ([a,b,c]:List HairHorse) 0 (([],[]):List Int×List HairHorse)=some (LT 3 4,keepL [a,b,c] (LT 3 4)):=by kernel_rfl
theorem kl3_4 (a b c:HairHorse):(keepL [a,b,c] (LT 3 4)).length+(LT 3 4).length=3:=by kernel_rfl
theorem ks3_5 (a b c:HairHorse):eachS (g91_14 5) ([a,b,c]:List HairHorse) 0 (([],[]):List Int×List HairHorse)=some (LT 3 5,keepL [a,b,c] (LT 3 5)):=by kernel_rfl
theorem kl3_5 (a b c:HairHorse):(keepL [a,b,c] (LT 3 5)).length+(LT 3 5).length=3:=by kernel_rfl
theorem ks3_6 (a b c:HairHorse):eachS (g91_14 6) ([a,b,c]:List HairHorse) 0 (([],[]):List Int×List HairHorse)=some (LT 3 6,keepL [a,b,c] (LT 3 6)):=by kernel_rfl
theorem kl3_6 (a b c:HairHorse):(keepL [a,b,c] (LT 3 6)).length+(LT 3 6).length=3:=by kernel_rfl
theorem ks3_7 (a b c:HairHorse):eachS (g91_14 7) ([a,b,c]:List HairHorse) 0 (([],[]):List Int×List HairHorse)=some (LT 3 7,keepL [a,b,c] (LT 3 7)):=by kernel_rfl
theorem kl3_7 (a b c:HairHorse):(keepL [a,b,c] (LT 3 7)).length+(LT 3 7).length=3:=by kernel_rfl
theorem ks {xs:List HairHorse} (hl:xs.length≤3) {s:Nat} (hs:s<2 ^ xs.length):eachS (g91_14 (s:Int)) xs 0 (([],[]):List Int×List HairHorse)=some (LT xs.length s,keepL xs (LT xs.length s)):=by
 match xs,hl,s,hs with
 | [],_,0,_=>exact ks0_0
 | [],_,s+1,hs=>exact absurd hs (by simp)
 | [a],_,0,_=>exact ks1_0 a
 | [a],_,1,_=>exact ks1_1 a
 | [a],_,s+2,hs=>exact absurd hs (by simp)
 | [a,b],_,0,_=>exact ks2_0 a b
 | [a,b],_,1,_=>exact ks2_1 a b
 | [a,b],_,2,_=>exact ks2_2 a b
 | [a,b],_,3,_=>exact ks2_3 a b
 | [a,b],_,s+4,hs=>exact absurd hs (by simp)
 | [a,b,c],_,0,_=>exact ks3_0 a b c
 | [a,b,c],_,1,_=>exact ks3_1 a b c
 | [a,b,c],_,2,_=>exact ks3_2 a b c
 | [a,b,c],_,3,_=>exact ks3_3 a b c
 | [a,b,c],_,4,_=>exact ks3_4 a b c
 | [a,b,c],_,5,_=>exact ks3_5 a b c
 | [a,b,c],_,6,_=>exact ks3_6 a b c
 | [a,b,c],_,7,_=>exact ks3_7 a b c
 | [a,b,c],_,s+8,hs=>exact absurd hs (by simp)
 | _::_::_::_::_,hl,_,_=>exact absurd hl (by simp)
theorem kl {xs:List HairHorse} (hl:xs.length≤3) {s:Nat} (hs:s<2 ^ xs.length):(keepL xs (LT xs.length s)).length+(LT xs.length s).length=xs.length:=by
 match xs,hl,s,hs with
 | [],_,0,_=>exact kl0_0
 | [],_,s+1,hs=>exact absurd hs (by simp)
 | [a],_,0,_=>exact kl1_0 a
 | [a],_,1,_=>exact kl1_1 a
 | [a],_,s+2,hs=>exact absurd hs (by simp)
 | [a,b],_,0,_=>exact kl2_0 a b
 | [a,b],_,1,_=>exact kl2_1 a b
 | [a,b],_,2,_=>exact kl2_2 a b
 | [a,b],_,3,_=>exact kl2_3 a b
 | [a,b],_,s+4,hs=>exact absurd hs (by simp)
 | [a,b,c],_,0,_=>exact kl3_0 a b c
 | [a,b,c],_,1,_=>exact kl3_1 a b c
 | [a,b,c],_,2,_=>exact kl3_2 a b c
 | [a,b,c],_,3,_=>exact kl3_3 a b c
 | [a,b,c],_,4,_=>exact kl3_4 a b c
 | [a,b,c],_,5,_=>exact kl3_5 a b c
 | [a,b,c],_,6,_=>exact kl3_6 a b c
 | [a,b,c],_,7,_=>exact kl3_7 a b c
 | [a,b,c],_,s+8,hs=>exact absurd hs (by simp)
 | _::_::_::_::_,hl,_,_=>exact absurd hl (by simp)
def woS (b:HairBook) (s:Nat):HairBook:=⟨b.Hanks,keepL b.Horses (LT b.Horses.length s),b.Dark,b.Near,b.Match⟩
theorem keepL_mem {xs:List HairHorse} {l:List Int} {x:HairHorse} (h:x∈keepL xs l):x∈xs:=by
 unfold keepL at h
 rw [List.mem_map] at h
 obtain ⟨y,hy,rfl⟩:=h
 have hm:=(List.mem_filter.1 hy).1
 rw [List.mem_iff_getElem?] at hm
 obtain ⟨k,hk⟩:=hm
 rw [List.getElem?_zipIdx] at hk
 cases hx:xs[k]? with
 | none=>rw [hx] at hk;cases hk
 | some z=>
  rw [hx] at hk
  simp only [Option.map_some,Option.some.injEq] at hk
  rw [← hk]
  exact List.mem_of_getElem? hx
theorem keepL_len (xs:List HairHorse) (l:List Int):(keepL xs l).length≤xs.length:=by
 unfold keepL
 rw [List.length_map]
 exact Nat.le_trans (List.length_filter_le _ _) (by rw [List.length_zipIdx];exact Nat.le_refl _)
theorem okW {b:HairBook} (hok:okH b=true) (s:Nat):okH (woS b s)=true:=by
 have hl:=keepL_len b.Horses (LT b.Horses.length s)
 unfold okH at hok ⊢
 simp only [Bool.and_eq_true,decide_eq_true_eq,List.all_eq_true] at hok ⊢
 obtain ⟨⟨⟨⟨⟨⟨h1,h2⟩,h3⟩,h4⟩,h5⟩,h6⟩,h7⟩:=hok
 refine ⟨⟨⟨⟨⟨⟨h1,?_⟩,h3⟩,h4⟩,h5⟩,h6⟩,fun x hx=>h7 x (keepL_mem hx)⟩
 simp only [woS]
 omega
theorem served_none {b:HairBook} (ok:OkH b) (h:b.Horses.length=0):servedB b=true:=by
 rw [served_iff]
 refine ⟨[],planB_iff.2 ⟨by simp [h],by simp⟩,?_⟩
 have:b.Horses=[]:=List.length_eq_zero_iff.1 h
 have hf:=okP_nil (b:=b) (by_:=fun s=>s.Low) (fun x hx=>by have:=(ok.hanks x hx).w;omega)
 unfold okP at hf
 rw [Bool.and_eq_true] at hf
 unfold worksB dyeK
 rw [this]
 rw [show fitK b []=fitP b (fun s=>s.Low) [] from rfl,hf.1]
 rfl
theorem served_all {b:HairBook} (hok:okH b=true):servedB (woS b (2 ^ b.Horses.length - 1))=true:=by
 have ok:=okH_of hok
 have h3:=ok.l3
 have hp:=pow_pos' b.Horses.length
 refine served_none (okH_of (okW hok _)) ?_
 have:=kl h3 (s:=2 ^ b.Horses.length - 1) (by omega)
 rw [(fz0 h3).2.2.1] at this
 unfold woS
 simp only
 omega
structure LackIs (b:HairBook) (t:Nat):Prop where
 lt:t<2 ^ b.Horses.length
 sv:servedB (woS b t)=true
 le:∀ u,u<2 ^ b.Horses.length→servedB (woS b u)=true→rk b.Horses.length t≤rk b.Horses.length u
def LackInv (b:HairBook) (i:Int) (s:List Int×Bool):Prop:=(s=([],false)∧∀ u:Nat,(u:Int)<i→servedB (woS b u)=false) ∨
 ∃ t:Nat,s=(LT b.Horses.length t,true)∧t<2 ^ b.Horses.length∧servedB (woS b t)=true∧∀ u:Nat,(u:Int)<i→servedB (woS b u)=true→rk b.Horses.length t≤rk b.Horses.length u
theorem p29_8 {b:HairBook} (hok:okH b=true) {s:Nat} (hs:s<2 ^ b.Horses.length) {st:List Int×Bool} (hI:LackInv b s st):∃ st',g91_8 b (s:Int) st=some st'∧LackInv b ((s:Int)+1) st':=by
 have ok:=okH_of hok
 have h3:=ok.l3
 have okw:=okH_of (okW hok s)
 obtain ⟨mf,e80,hmf⟩:=p80 okw
 have hmk:HairBook.mk b.Hanks (keepL b.Horses (LT b.Horses.length s)) b.Dark b.Near b.Match=woS b s:=rfl
 rcases hI with ⟨rfl,hI⟩ | ⟨t,rfl,ht,hsv,hle⟩
 ·have he:g91_8 b (s:Int) ([],false)=some (bif servedB (woS b s) then (LT b.Horses.length s,true) else ([],false)):=by
   unfold g91_8
   rw [ks h3 hs]
   simp only [bsm,cond_false,hmk,e80,p84 okw hmf]
   cases servedB (woS b s)<;>rfl
  refine ⟨_,he,?_⟩
  cases hv:servedB (woS b s) with
  | true=>
   refine .inr ⟨s,rfl,hs,hv,fun u hu hsu=>?_⟩
   by_cases e:u=s
   ·subst e;exact Nat.le_refl _
   ·have:=hI u (by omega);rw [hsu] at this;cases this
  | false=>
   refine .inl ⟨rfl,fun u hu=>?_⟩
   by_cases e:u=s
   ·subst e;exact hv
   ·exact hI u (by omega)
 ·have hc:=fC h3 hs ht
  have he:g91_8 b (s:Int) (LT b.Horses.length t,true)=some (bif decide (rk b.Horses.length s<rk b.Horses.length t)&&servedB (woS b s) then (LT b.Horses.length s,true) else (LT b.Horses.length t,true)):=by
   unfold g91_8
   rw [ks h3 hs]
   simp only [bsm,cond_true]
   have key:∀ {X:Option Bool} {F:Bool→Option (List Int×Bool)} {v:Bool},X=some v→X.bind F=F v:=by
    intro X F v h;rw [h];rfl
   refine Eq.trans (key hc) ?_
   cases decide (rk b.Horses.length s<rk b.Horses.length t) with
   | false=>rfl
   | true=>
    simp only [Bool.not_true,cond_false,hmk,e80,bsm,p84 okw hmf,Bool.true_and]
    cases servedB (woS b s)<;>rfl
  refine ⟨_,he,?_⟩
  by_cases h1:rk b.Horses.length s<rk b.Horses.length t
  ·rw [decide_eq_true h1,Bool.true_and]
   cases hv:servedB (woS b s) with
   | true=>
    refine .inr ⟨s,rfl,hs,hv,fun u hu hsu=>?_⟩
    by_cases e:u=s
    ·subst e;exact Nat.le_refl _
    ·have:=hle u (by omega) hsu;omega
   | false=>
    refine .inr ⟨t,rfl,ht,hsv,fun u hu hsu=>?_⟩
    by_cases e:u=s
    ·subst e;rw [hv] at hsu;cases hsu
    ·exact hle u (by omega) hsu
  ·rw [decide_eq_false h1,Bool.false_and]
   refine .inr ⟨t,rfl,ht,hsv,fun u hu hsu=>?_⟩
   by_cases e:u=s
   ·subst e;omega
   ·exact hle u (by omega) hsu
theorem p29 {b:HairBook} (hok:okH b=true):∃ t,LackIs b t∧g91 b=some (LT b.Horses.length t,0):=by
 have ok:=okH_of hok
 have h3:=ok.l3
 have hp:=pow_pos' b.Horses.length
 have hp8:=pow_le' h3
 obtain ⟨st,e,hI⟩:=forS_inv (f:=g91_8 b) (LackInv b) (2 ^ b.Horses.length) 0 ([],false) (.inl ⟨rfl,fun u hu=>by omega⟩) (fun j s h1 h2 hs=>by
  obtain ⟨k,rfl⟩:∃ k:Nat,j=(k:Int):=⟨j.toNat,by omega⟩
  exact p29_8 hok (by omega) hs)
 rcases hI with ⟨rfl,hI⟩ | ⟨t,rfl,ht,hsv,hle⟩
 ·have:=hI (2 ^ b.Horses.length - 1) (by omega)
  rw [served_all hok] at this;cases this
 ·refine ⟨t,⟨ht,hsv,fun u hu h=>hle u (by omega) h⟩,?_⟩
  unfold g91
  rw [p17,hok,bsm]
  simp only [cond_true,ne_eq,not_true_eq_false,decide_false,cond_false]
  rw [must_t (by rw [decide_eq_true_eq];omega),bsm,fS h3,must_t (by rw [decide_eq_true_eq];omega),bsm,show (((2 ^ b.Horses.length:Nat):Int) - 0).toNat=2 ^ b.Horses.length by omega,e,bsm]
  simp only [slcL_all,bsm]
end Go.Proofs.YtjooihelppcfkaaDoor
set_option maxRecDepth 100000
namespace Go.Proofs.YtjooihelppcfkaaDoor
open Go Go.Abs Go.Proofs.Tr
theorem p109 (l:List Int) (n:Int) (h:l.length≤100):g109 l n=some (l++[n]):=by
 have hmk:mkL2 8 0 ((l.length:Int)+1) (0:Int)=some []:=by
  unfold mkL2
  have:(decide ((0:Int)≤0)&&(decide ((0:Int)≤(l.length:Int)+1)&&(decide (((8:Nat):Int)*((l.length:Int)+1)≤281474976710656)&&decide ((l.length:Int)+1≤9223372036854775807))))=true:=by
   simp only [Bool.and_eq_true,decide_eq_true_eq];omega
  rw [this];simp
 unfold g109
 rw [wr_in (by omega) (by omega),hmk,bsm,appL_ok (by rw [List.nil_append];omega),bsm,List.nil_append,appL_ok (by rw [List.length_append,List.length_singleton];omega),bsm]
def okSp (b:HairBook) (p:List Int):Bool:=fitP b (·.Low) p&&bif decide (2*b.Horses.length≤p.length) then dyeK b p else true
theorem dyeK_snoc {b:HairBook} {p:List Int} (k:Int) (h:2*b.Horses.length≤p.length):dyeK b (p++[k])=dyeK b p:=by
 unfold dyeK
 refine all_congr fun y hy=>?_
 have hlt:y.2<b.Horses.length:=by
  rw [List.mem_iff_getElem?] at hy
  obtain ⟨j,hj⟩:=hy
  rw [List.getElem?_zipIdx] at hj
  cases hx:b.Horses[j]? with
  | none=>rw [hx] at hj;cases hj
  | some x=>
   rw [hx] at hj
   simp only [Option.map_some,Option.some.injEq,Nat.zero_add] at hj
   subst hj
   exact (List.getElem?_eq_some_iff.1 hx).1
 rw [List.getElem?_append_left (by omega),List.getElem?_append_left (by omega)]
theorem okSp_pre {b:HairBook} (ok:OkH b) (p:List Int) (k:Int) (h:okSp b (p++[k])=true):okSp b p=true:=by
 unfold okSp at h ⊢
 rw [Bool.and_eq_true] at h ⊢
 refine ⟨fitP_pre ok h.1,?_⟩
 by_cases hl:2*b.Horses.length≤p.length
 ·have h2:=h.2
  rw [decide_eq_true (by rw [List.length_append];omega),cond_true,dyeK_snoc k hl] at h2
  rw [decide_eq_true hl,cond_true,h2]
 ·rw [decide_eq_false hl,cond_false]
theorem tr_len {K:Nat} (hK:K≤5) (ok:List Int→Bool):∀ (n:Nat) (p:List Int),(tr K ok n p).length≤5 ^ n
 | 0,p=>by rw [tr];cases ok p<;>simp
 | n+1,p=>by
  rw [tr]
  cases ok p with
  | false=>simp
  | true=>
   have:∀ (xs:List Nat),(xs.flatMap fun (k:Nat)=>tr K ok n (p++[(k:Int)])).length≤5 ^ n*xs.length:=by
    intro xs
    induction xs with
    | nil=>simp
    | cons x xs ih=>
     have h1:=tr_len hK ok n (p++[(x:Int)])
     rw [List.flatMap_cons,List.length_append,List.length_cons,Nat.mul_succ]
     omega
   have h2:=this (List.range' 0 K)
   rw [List.length_range'] at h2
   rw [cond_true,Nat.pow_succ]
   exact Nat.le_trans h2 (Nat.mul_le_mul_left _ hK)
theorem eachS_flat {α A:Type} {f:Int→α→List A→Option (List A)} (L:Nat→List A) (M:Nat) (hM:∀ j,(L j).length≤M):∀ (xs:List α) (i:Nat) (acc:List A),(∀ (j:Nat) x acc,i≤j→j<i+xs.length→acc.length+M≤100000→f (j:Int) x acc=some (acc++L j))→acc.length+M*xs.length≤100000→eachS f xs (i:Int) acc=some (acc++(List.range' i xs.length).flatMap L)
 | [],i,acc,h,hl=>by simp [eachS]
 | x::xs,i,acc,h,hl=>by
  rw [List.length_cons,Nat.mul_succ] at hl
  have:=hM i
  rw [eachS,h i x acc (Nat.le_refl _) (by simp) (by omega),bsm,show (i:Int)+1=((i+1:Nat):Int) by omega,eachS_flat L M hM xs (i+1) (acc++L i) (fun j y acc h1 h2=>h j y acc (by omega) (by simp only [List.length_cons];omega)) (by rw [List.length_append];omega),List.length_cons,List.range'_succ,List.flatMap_cons,List.append_assoc]
theorem p82 {b:HairBook} (ok:OkH b):∀ (n fuel:Nat) (p:List Int),p.length+n=2*b.Horses.length→n+1≤fuel→(∀ x,x∈p→0≤x∧x<b.Hanks.length)→g122 fuel b p=some (tr b.Hanks.length (okSp b) n p)
 | 0,fuel,p,hl,hf,hr=>by
  have h3:=ok.l3
  obtain ⟨fuel,rfl⟩:∃ j,fuel=j+1:=⟨fuel - 1,by omega⟩
  rw [g122,p104 ok (by omega),bsm,tr]
  cases hfit:fitP b (·.Low) p with
  | false=>
   have:okSp b p=false:=by unfold okSp;rw [hfit];rfl
   rw [this];rfl
  | true=>
   have:okSp b p=worksB b p:=by
    unfold okSp worksB
    rw [hfit,decide_eq_true (by omega),cond_true,show fitK b p=fitP b (·.Low) p from rfl,hfit]
   rw [this,wr_in (by omega) (by omega),decide_eq_true (show (p.length:Int)=2*(b.Horses.length:Int) by omega)]
   simp only [Bool.not_true,cond_false,cond_true,p69 ok ⟨by omega,hr⟩,bsm]
   cases worksB b p<;>rfl
 | n+1,fuel,p,hl,hf,hr=>by
  have h3:=ok.l3
  have h4:=ok.l4
  obtain ⟨fuel,rfl⟩:∃ j,fuel=j+1:=⟨fuel - 1,by omega⟩
  rw [g122,p104 ok (by omega),bsm,tr]
  cases hfit:fitP b (·.Low) p with
  | false=>
   have:okSp b p=false:=by unfold okSp;rw [hfit];rfl
   rw [this];rfl
  | true=>
   have:okSp b p=true:=by
    unfold okSp
    rw [hfit,decide_eq_false (by omega)];rfl
   have h5n:5 ^ n≤3125:=Nat.le_trans (Nat.pow_le_pow_right (by decide) (show n≤5 by omega)) (by decide)
   rw [this,cond_true,wr_in (by omega) (by omega),decide_eq_false (show ¬ (p.length:Int)=2*(b.Horses.length:Int) by omega)]
   have hm:5 ^ n*b.Hanks.length≤3125*5:=Nat.mul_le_mul h5n h4
   have:=eachS_flat (f:=g122_14 (g122 fuel) b p) (fun j=>tr b.Hanks.length (okSp b) n (p++[(j:Int)])) (5 ^ n) (fun j=>tr_len h4 _ n _) b.Hanks 0 [] (fun j x acc h1 h2 ha=>by
    have hlen:=tr_len h4 (okSp b) n (p++[(j:Int)])
    unfold g122_14
    rw [p109 p _ (by omega),bsm,p82 ok n fuel (p++[(j:Int)]) (by rw [List.length_append,List.length_singleton];omega) (by omega) (fun x hx=>by
     rcases List.mem_append.1 hx with hx | hx
     ·exact hr x hx
     ·rw [List.mem_singleton] at hx;omega),bsm,appL_ok (by rw [List.length_append];omega),bsm]) (by simp only [List.length_nil];omega)
   rw [show ((0:Nat):Int)=0 from rfl,List.nil_append] at this
   simp only [Bool.not_true,cond_false]
   rw [this]
   rfl
theorem p82_all {b:HairBook} (ok:OkH b):g122 1000 b ([]:List Int)=some (plansL b (·.Low)):=by
 have h3:=ok.l3
 rw [p82 ok (2*b.Horses.length) 1000 [] (by simp) (by omega) (by simp),tr_eq (okSp_pre ok)]
 unfold plansL
 congr 1
 refine List.filter_congr fun q hq=>?_
 obtain ⟨h1,h2⟩:=planB_iff.1 (mem_allP.1 hq)
 unfold okSp okP
 rw [decide_eq_true (by omega),cond_true,dyeQ_full h1]
theorem p85 {b:HairBook} (ok:OkH b):g115 b=some (servedB b):=by
 unfold g115
 rw [p82_all ok,bsm]
 unfold servedB
 cases plansL b (·.Low) with
 | nil=>rfl
 | cons q l=>simp
theorem kx0_0:eachS (g116_2 0) ([]:List HairHorse) 0 ([]:List HairHorse)=some (keepL [] (LT 0 0)):=by kernel_rfl
theorem kx1_0 (a:HairHorse):eachS (g116_2 0) ([a]:List HairHorse) 0 ([]:List HairHorse)=some (keepL [a] (LT 1 0)):=by kernel_rfl
theorem kx1_1 (a:HairHorse):eachS (g116_2 1) ([a]:List HairHorse) 0 ([]:List HairHorse)=some (keepL [a] (LT 1 1)):=by kernel_rfl
theorem kx2_0 (a b:HairHorse):eachS (g116_2 0) ([a,b]:List HairHorse) 0 ([]:List HairHorse)=some (keepL [a,b] (LT 2 0)):=by kernel_rfl
theorem kx2_1 (a b:HairHorse):eachS (g116_2 1) ([a,b]:List HairHorse) 0 ([]:List HairHorse)=some (keepL [a,b] (LT 2 1)):=by kernel_rfl
theorem kx2_2 (a b:HairHorse):eachS (g116_2 2) ([a,b]:List HairHorse) 0 ([]:List HairHorse)=some (keepL [a,b] (LT 2 2)):=by kernel_rfl
theorem kx2_3 (a b:HairHorse):eachS (g116_2 3) ([a,b]:List HairHorse) 0 ([]:List HairHorse)=some (keepL [a,b] (LT 2 3)):=by kernel_rfl
theorem kx3_0 (a b c:HairHorse):eachS (g116_2 0) ([a,b,c]:List HairHorse) 0 ([]:List HairHorse)=some (keepL [a,b,c] (LT 3 0)):=by kernel_rfl
theorem kx3_1 (a b c:HairHorse):eachS (g116_2 1) ([a,b,c]:List HairHorse) 0 ([]:List HairHorse)=some (keepL [a,b,c] (LT 3 1)):=by kernel_rfl
theorem kx3_2 (a b c:HairHorse):eachS (g116_2 2) ([a,b,c]:List HairHorse) 0 ([]:List HairHorse)=some (keepL [a,b,c] (LT 3 2)):=by kernel_rfl
theorem kx3_3 (a b c:HairHorse):eachS (g116_2 3) ([a,b,c]:List HairHorse) 0 ([]:List HairHorse)=some (keepL [a,b,c] (LT 3 3)):=by kernel_rfl
theorem kx3_4 (a b c:HairHorse):eachS (g116_2 4) ([a,b,c]:List HairHorse) 0 ([]:List HairHorse)=some (keepL [a,b,c] (LT 3 4)):=by kernel_rfl
theorem kx3_5 (a b c:HairHorse):eachS (g116_2 5) ([a,b,c]:List HairHorse) 0 ([]:List HairHorse)=some (keepL [a,b,c] (LT 3 5)):=by kernel_rfl
theorem kx3_6 (a b c:HairHorse):eachS (g116_2 6) ([a,b,c]:List HairHorse) 0 ([]:List HairHorse)=some (keepL [a,b,c] (LT 3 6)):=by kernel_rfl
theorem kx3_7 (a b c:HairHorse):eachS (g116_2 7) ([a,b,c]:List HairHorse) 0 ([]:List HairHorse)=some (keepL [a,b,c] (LT 3 7)):=by kernel_rfl
theorem kx {xs:List HairHorse} (hl:xs.length≤3) {s:Nat} (hs:s<2 ^ xs.length):eachS (g116_2 (s:Int)) xs 0 ([]:List HairHorse)=some (keepL xs (LT xs.length s)):=by
 match xs,hl,s,hs with
 | [],_,0,_=>exact kx0_0
 | [],_,s+1,hs=>exact absurd hs (by simp)
 | [a],_,0,_=>exact kx1_0 a
 | [a],_,1,_=>exact kx1_1 a
 | [a],_,s+2,hs=>exact absurd hs (by simp)
 | [a,b],_,0,_=>exact kx2_0 a b
 | [a,b],_,1,_=>exact kx2_1 a b
 | [a,b],_,2,_=>exact kx2_2 a b
 | [a,b],_,3,_=>exact kx2_3 a b
 | [a,b],_,s+4,hs=>exact absurd hs (by simp)
 | [a,b,c],_,0,_=>exact kx3_0 a b c
 | [a,b,c],_,1,_=>exact kx3_1 a b c
 | [a,b,c],_,2,_=>exact kx3_2 a b c
 | [a,b,c],_,3,_=>exact kx3_3 a b c
 | [a,b,c],_,4,_=>exact kx3_4 a b c
 | [a,b,c],_,5,_=>exact kx3_5 a b c
 | [a,b,c],_,6,_=>exact kx3_6 a b c
 | [a,b,c],_,7,_=>exact kx3_7 a b c
 | [a,b,c],_,s+8,hs=>exact absurd hs (by simp)
 | _::_::_::_::_,hl,_,_=>exact absurd hl (by simp)
theorem p30 {b:HairBook} (hok:okH b=true):∃ t,LackIs b t∧g96 b=some (LT b.Horses.length t,0):=by
 have ok:=okH_of hok
 have h3:=ok.l3
 have hp:=pow_pos' b.Horses.length
 have hp8:=pow_le' h3
 obtain ⟨st,e,t,rfl,ht,hsv,hle⟩:=forS_inv (f:=g96_10 b) (fun i (l:List Int)=>∃ t:Nat,l=LT b.Horses.length t∧t<2 ^ b.Horses.length∧servedB (woS b t)=true∧∀ u:Nat,(u:Int)<i→servedB (woS b u)=true→rk b.Horses.length t≤rk b.Horses.length u) (2 ^ b.Horses.length) 0 (LT b.Horses.length (2 ^ b.Horses.length - 1)) ⟨_,rfl,by omega,served_all hok,fun u hu=>by omega⟩ (fun j s h1 h2 hs=>by
  obtain ⟨k,rfl⟩:∃ k:Nat,j=(k:Int):=⟨j.toNat,by omega⟩
  obtain ⟨t,rfl,ht,hsv,hle⟩:=hs
  have hk:k<2 ^ b.Horses.length:=by omega
  have okw:=okH_of (okW hok k)
  have he:g96_10 b (k:Int) (LT b.Horses.length t)=some (bif decide (rk b.Horses.length k<rk b.Horses.length t)&&servedB (woS b k) then LT b.Horses.length k else LT b.Horses.length t):=by
   unfold g96_10 g116
   rw [must_t (by rw [decide_eq_true_eq];omega),bsm,f48 h3 hk,bsm,f49 h3 hk ht,bsm,kx h3 hk]
   simp only [bsm]
   rw [show HairBook.mk b.Hanks (keepL b.Horses (LT b.Horses.length k)) b.Dark b.Near b.Match=woS b k from rfl,p85 okw]
   cases decide (rk b.Horses.length k<rk b.Horses.length t) with
   | false=>rfl
   | true=>cases servedB (woS b k)<;>rfl
  refine ⟨_,he,?_⟩
  by_cases hr:rk b.Horses.length k<rk b.Horses.length t
  ·rw [decide_eq_true hr,Bool.true_and]
   cases hv:servedB (woS b k) with
   | true=>
    refine ⟨k,rfl,hk,hv,fun u hu hsu=>?_⟩
    by_cases e:u=k
    ·subst e;exact Nat.le_refl _
    ·have:=hle u (by omega) hsu;omega
   | false=>
    refine ⟨t,rfl,ht,hsv,fun u hu hsu=>?_⟩
    by_cases e:u=k
    ·subst e;rw [hv] at hsu;cases hsu
    ·exact hle u (by omega) hsu
  ·rw [decide_eq_false hr,Bool.false_and]
   refine ⟨t,rfl,ht,hsv,fun u hu hsu=>?_⟩
   by_cases e:u=k
   ·subst e;omega
   ·exact hle u (by omega) hsu)
 refine ⟨t,⟨ht,hsv,fun u hu h=>hle u (by omega) h⟩,?_⟩
 unfold g96
 rw [p18,hok,bsm]
 simp only [cond_true,ne_eq,not_true_eq_false,decide_false,cond_false]
 rw [must_t (by rw [decide_eq_true_eq];omega),bsm,fS h3,wr_in (by omega) (by omega),show ((2 ^ b.Horses.length:Nat):Int) - 1=((2 ^ b.Horses.length - 1:Nat):Int) by omega,f48 h3 (by omega),bsm,must_t (by rw [decide_eq_true_eq];omega),bsm,show (((2 ^ b.Horses.length:Nat):Int) - 0).toNat=2 ^ b.Horses.length by omega,e,bsm]
 rfl
end Go.Proofs.YtjooihelppcfkaaDoor
namespace Go.Proofs.YtjooihelppcfkaaDoor
open Go Go.Abs Go.Proofs.Tr
def okSt (s:Span):Bool:=rg s.Low 0 s.High&&decide (s.High≤40)&&decide (wr (s.High - s.Low)≤4)
def okNd (m:Int) (l:List Int):Bool:=decide ((l.length:Int)=m)&&l.all fun n=>rg n 0 9
def okHa (b:HarnessBook):Bool:=okH b.Hair&&rg (b.Stock.length:Int) 1 3&&decide ((b.Needs.length:Int)=(b.Hair.Horses.length:Int))&&rg b.Pack 1 12&&rg b.Bad 0 (wr (b.Pack - 1))&&b.Stock.all okSt&&b.Needs.all (okNd (b.Stock.length:Int))
theorem hb68 (n a c:Int):g68 n a c=some (rg n a c):=rfl
theorem hb44 (n a c:Int):g44 n a c=some (rg n a c):=rfl
theorem hb18_16 (i:Int) (x:Span) (s:Bool):g18_16 i x s=some (s&&okSt x):=by
 simp only [g18_16,hb68,bsm,cs,okSt,Bool.cond_false_right,Bool.and_assoc]
theorem hb18_38 (i:Int) (x:Int) (s:Bool):g18_38 i x s=some (s&&rg x 0 9):=by
 simp only [g18_38,hb68,bsm,cs,Bool.cond_false_right]
theorem hb18_29 (b:HarnessBook) (i:Int) (x:List Int) (s:Bool):g18_29 b i x s=some (s&&okNd (b.Stock.length:Int) x):=by
 simp only [g18_29,bsm,cs,eachS_all hb18_38,okNd,Bool.cond_false_right,Bool.and_assoc]
theorem hb18 (b:HarnessBook):g18 b=some (bif okHa b then 0 else 100):=by
 unfold g18
 rw [p17,bsm]
 have e:decide ((bif okH b.Hair then (0:Int) else 60)=0)=okH b.Hair:=by cases okH b.Hair<;>rfl
 simp only [e,hb68,bsm,cs,Bool.cond_false_right,eachS_all hb18_16,eachS_all (hb18_29 b)]
 have:∀ x:Bool,(bif !x then (100:Int) else 0)=bif x then 0 else 100:=by intro x;cases x<;>rfl
 rw [this]
 simp only [okHa,Bool.and_assoc]
structure HaOk (b:HarnessBook):Prop where
 ok:okH b.Hair=true
 s1:1≤b.Stock.length
 s3:b.Stock.length≤3
 nl:b.Needs.length=b.Hair.Horses.length
 n3:b.Needs.length≤3
 pack:1≤b.Pack∧b.Pack≤12
 bad:0≤b.Bad∧b.Bad≤b.Pack - 1
 st:∀ s,s∈b.Stock→0≤s.Low∧s.Low≤s.High∧s.High≤40∧s.High - s.Low≤4
 nd:∀ l,l∈b.Needs→l.length=b.Stock.length∧∀ n,n∈l→0≤n∧n≤9
theorem haOk_of {b:HarnessBook} (h:okHa b=true):HaOk b:=by
 simp only [okHa,Bool.and_eq_true,rg_iff,decide_eq_true_eq,List.all_eq_true] at h
 obtain ⟨⟨⟨⟨⟨⟨h1,h2⟩,h3⟩,h4⟩,h5⟩,h6⟩,h7⟩:=h
 have h8:=(okH_of h1).l3
 rw [wr_in (by omega) (by omega)] at h5
 refine ⟨h1,by omega,by omega,by omega,by omega,h4,h5,fun s hs=>?_,fun l hl=>?_⟩
 ·have:=h6 s hs
  simp only [okSt,Bool.and_eq_true,rg_iff,decide_eq_true_eq] at this
  obtain ⟨⟨a1,a2⟩,a3⟩:=this
  rw [wr_in (by omega) (by omega)] at a3
  omega
 ·have:=h7 l hl
  simp only [okNd,Bool.and_eq_true,rg_iff,decide_eq_true_eq,List.all_eq_true] at this
  exact ⟨by omega,this.2⟩
theorem haOk_to {b:HarnessBook} (h:HaOk b):okHa b=true:=by
 have h8:=h.bad
 have h9:=h.pack
 simp only [okHa,Bool.and_eq_true,rg_iff,decide_eq_true_eq,List.all_eq_true]
 rw [wr_in (by omega) (by omega)]
 refine ⟨⟨⟨⟨⟨⟨h.ok,by have:=h.s1;have:=h.s3;omega⟩,by rw [h.nl]⟩,h.pack⟩,h.bad⟩,fun s hs=>?_⟩,fun l hl=>?_⟩
 ·have:=h.st s hs
  simp only [okSt,Bool.and_eq_true,rg_iff,decide_eq_true_eq]
  rw [wr_in (by omega) (by omega)]
  omega
 ·have:=h.nd l hl
  simp only [okNd,Bool.and_eq_true,rg_iff,decide_eq_true_eq,List.all_eq_true]
  exact ⟨by omega,this.2⟩
theorem q126_iff (x y:Harness_want):q126 x y=true↔x=y:=by
 cases x;cases y
 simp [q126]
def ndOf (b:HarnessBook) (h k:Int):Int:=match b.Needs[h.toNat]? with
 | some l=>(l[k.toNat]?).getD 0
 | none=>0
def NdK (b:HarnessBook) (h0 k0:Int) (m:List (Harness_want×Int)):Prop:=∀ h k,0≤h→mget q126 m ⟨h,k⟩=bif (decide (h<h0)&&decide (0≤k)&&decide (k<b.Stock.length))||(decide (h=h0)&&decide (0≤k)&&decide (k<k0)) then some (ndOf b h k) else none
theorem hb93_13 {b:HarnessBook} {h:Nat} {l:List Int} (hl:b.Needs[h]?=some l) {k:Nat} {n:Int} (hn:l[k]?=some n) {m:List (Harness_want×Int)} (hm:NdK b (h:Int) (k:Int) m):∃ m',g93_13 (h:Int) (k:Int) n m=some m'∧NdK b (h:Int) ((k+1:Nat):Int) m':=by
 have hnone:mget q126 m ⟨(h:Int),(k:Int)⟩=none:=by
  rw [hm _ _ (by omega)]
  have:((decide ((h:Int)<(h:Int))&&decide (0≤(k:Int))&&decide ((k:Int)<b.Stock.length))||(decide ((h:Int)=(h:Int))&&decide (0≤(k:Int))&&decide ((k:Int)<(k:Int))))=false:=by simp
  rw [this];rfl
 have hv:ndOf b (h:Int) (k:Int)=n:=by
  unfold ndOf
  rw [Int.toNat_natCast,hl]
  simp [hn]
 refine ⟨m++[(⟨(h:Int),(k:Int)⟩,n)],?_,fun h' k' h0=>?_⟩
 ·unfold g93_13 mput
  rw [hnone];rfl
 ·rw [mget_append]
  by_cases he:h'=(h:Int)∧k'=(k:Int)
  ·obtain ⟨rfl,rfl⟩:=he
   rw [hnone]
   have hq:q126 ⟨(h:Int),(k:Int)⟩ ⟨(h:Int),(k:Int)⟩=true:=(q126_iff _ _).2 rfl
   have ht:((decide ((h:Int)<(h:Int))&&decide (0≤(k:Int))&&decide ((k:Int)<b.Stock.length))||(decide ((h:Int)=(h:Int))&&decide (0≤(k:Int))&&decide ((k:Int)<((k+1:Nat):Int))))=true:=by
    simp;omega
   rw [ht,hv]
   simp only [hq,cond_true]
  ·have hq:q126 ⟨h',k'⟩ ⟨(h:Int),(k:Int)⟩=false:=by
    cases hc:q126 ⟨h',k'⟩ ⟨(h:Int),(k:Int)⟩ with
    | false=>rfl
    | true=>
     have:=(q126_iff _ _).1 hc
     injection this with e1 e2
     exact absurd ⟨e1,e2⟩ he
   rw [hm _ _ h0,hq]
   have:(decide (h'=(h:Int))&&decide (0≤k')&&decide (k'<(k:Int)))=(decide (h'=(h:Int))&&decide (0≤k')&&decide (k'<((k+1:Nat):Int))):=by
    rw [Bool.eq_iff_iff]
    simp only [Bool.and_eq_true,decide_eq_true_eq]
    constructor
    ·rintro ⟨⟨a1,a2⟩,a3⟩;exact ⟨⟨a1,a2⟩,by omega⟩
    ·rintro ⟨⟨a1,a2⟩,a3⟩
     refine ⟨⟨a1,a2⟩,?_⟩
     by_cases e:k'=(k:Int)
     ·exact absurd ⟨a1,e⟩ he
     ·omega
   rw [this]
   cases (decide (h'<(h:Int))&&decide (0≤k')&&decide (k'<b.Stock.length))||(decide (h'=(h:Int))&&decide (0≤k')&&decide (k'<((k+1:Nat):Int)))<;>rfl
def NdOk (b:HarnessBook) (m:List (Harness_want×Int)):Prop:=∀ (h k:Nat),h<b.Needs.length→k<b.Stock.length→mget q126 m ⟨(h:Int),(k:Int)⟩=some (ndOf b h k)
def baldL (b:HarnessBook):List Int:=((g91 b.Hair).map (·.1)).getD []
theorem bald_eq {b:HarnessBook} (ok:HaOk b):g91 b.Hair=some (baldL b,0):=by
 obtain ⟨t,_,e⟩:=p29 ok.ok
 unfold baldL
 rw [e];rfl
theorem hb93 {b:HarnessBook} (ok:HaOk b):∃ m,g93 b=some (b,baldL b,m)∧NdOk b m:=by
 have h0:mput q126 ([]:List (Harness_want×Int)) (Harness_want.mk (-1) (-1)) 0=some [(Harness_want.mk (-1) (-1),0)]:=rfl
 obtain ⟨m,em,hm⟩:=eachS_inv (f:=g93_7) (fun h m=>NdK b (h:Int) 0 m) b.Needs 0 [(Harness_want.mk (-1) (-1),0)] (fun h k hh=>by
  have:((decide (h<((0:Nat):Int))&&decide (0≤k)&&decide (k<b.Stock.length))||(decide (h=((0:Nat):Int))&&decide (0≤k)&&decide (k<0)))=false:=by
   rw [Bool.eq_false_iff]
   intro hc
   simp only [Bool.or_eq_true,Bool.and_eq_true,decide_eq_true_eq] at hc
   omega
  rw [this]
  have hq:q126 ⟨h,k⟩ ⟨-1,-1⟩=false:=by
   cases hc:q126 ⟨h,k⟩ ⟨-1,-1⟩ with
   | false=>rfl
   | true=>
    have:=(q126_iff _ _).1 hc
    injection this with e1 e2
    omega
  simp only [mget,mfd,hq,cond_false];rfl) (fun h l m hk hx hm=>by
  rw [Nat.sub_zero] at hx
  obtain ⟨m',e',h'⟩:=eachS_inv (f:=g93_13 (h:Int)) (fun k m=>NdK b (h:Int) (k:Int) m) l 0 m hm (fun k n s k1 k2 hs=>hb93_13 hx (by rwa [Nat.sub_zero] at k2) hs)
  refine ⟨m',by unfold g93_7;rw [show (0:Int)=((0:Nat):Int) from rfl,e',bsm],fun h2 k2 hh=>?_⟩
  rw [h' _ _ hh]
  congr 1
  have:=(ok.nd l (List.mem_of_getElem? hx)).1
  rw [Bool.eq_iff_iff]
  simp only [Bool.or_eq_true,Bool.and_eq_true,decide_eq_true_eq]
  omega)
 refine ⟨m,?_,fun h k h1 h2=>?_⟩
 ·unfold g93
  rw [h0,bsm,bald_eq ok,bsm]
  simp only
  rw [show ((0:Nat):Int)=0 from rfl] at em
  rw [em,bsm]
 ·rw [hm _ _ (by omega)]
  have:((decide ((h:Int)<((0+b.Needs.length:Nat):Int))&&decide (0≤(k:Int))&&decide ((k:Int)<b.Stock.length))||(decide ((h:Int)=((0+b.Needs.length:Nat):Int))&&decide (0≤(k:Int))&&decide ((k:Int)<0)))=true:=by
   simp only [Bool.or_eq_true,Bool.and_eq_true,decide_eq_true_eq]
   omega
  rw [this];rfl
theorem hb59 {b:HarnessBook} (ok:HaOk b):∃ m,g59 b true=some (.brk (b,baldL b,m,0))∧NdOk b m:=by
 obtain ⟨m,e,h⟩:=hb93 ok
 refine ⟨m,?_,h⟩
 unfold g59
 rw [hb18,haOk_to ok,bsm,e]
 rfl
theorem hb59_no {b:HarnessBook} (h:okHa b=false) (is:Bool):g59 b is=some (.next (⟨⟨[],[],0,0,0⟩,[],[],0,0⟩,[],100)):=by
 unfold g59
 rw [hb18,h];rfl
end Go.Proofs.YtjooihelppcfkaaDoor
namespace Go.Proofs.YtjooihelppcfkaaDoor
open Go Go.Abs Go.Proofs.Tr
theorem hb108_loop (v:Int):∀ (l:List Int) (i:Int),0≤i→∃ c,eachC (g108_3 v) l i ()=some c∧((v∈l∧∃ j,c=.brk j∧0≤j)∨(¬ v∈l∧c=.next ()))
 | [],i,h=>⟨_,rfl,.inr ⟨by simp,rfl⟩⟩
 | x::l,i,h=>by
  rw [eachC]
  by_cases e:v=x
  ·refine ⟨.brk i,?_,.inl ⟨by simp [e],i,rfl,h⟩⟩
   simp [g108_3,e,bsm]
  ·obtain ⟨c,h1,h2⟩:=hb108_loop v l (i+1) (by omega)
   refine ⟨c,?_,?_⟩
   ·simpa [g108_3,e,bsm] using h1
   ·have:v∈x::l↔v∈l:=by simp [e]
    rw [this];exact h2
theorem hb89 (l:List Int) (v:Int):g89 l v=some (decide (v∈l)):=by
 obtain ⟨c,h1,h2⟩:=hb108_loop v l 0 (by omega)
 unfold g89 g108
 rw [h1]
 rcases h2 with ⟨h2,j,rfl,h3⟩ | ⟨h2,rfl⟩
 ·show some (decide (0≤j))=_
  rw [decide_eq_true h3,decide_eq_true h2]
 ·show some (decide (0≤(-1:Int)))=_
  rw [decide_eq_false h2];rfl
theorem hb102 (b:HarnessBook) (bald:List Int) (m:List (Harness_want×Int)) (h:Int):g102 b bald m h=some (!decide (h∈bald)):=by
 unfold g102
 rw [hb89];rfl
theorem aset_g (w:Nat→Int) (j k:Nat) (x:Int):aset w j x k=if k=j then x else w k:=by
 unfold aset
 by_cases h:k=j
 ·subst h;simp
 ·have:Nat.beq k j=false:=by
   cases hb:Nat.beq k j with
   | true=>exact absurd (Nat.eq_of_beq_eq_true hb) h
   | false=>rfl
  rw [this,if_neg h];rfl
theorem hb103 {b:HarnessBook} (ok:HaOk b) {m:List (Harness_want×Int)} (hm:NdOk b m) (bald:List Int) {h:Nat} (hh:h<b.Needs.length) :
  ∃ w,g103 b bald m (h:Int)=some w∧∀ k:Nat,w k=if k<b.Stock.length then ndOf b h k else 0:=by
 have hs:=ok.s3
 obtain ⟨w,e,hw⟩:=eachS_inv (f:=g103_5 m (h:Int)) (fun n w=>∀ k:Nat,w k=if k<n then ndOf b h k else 0) b.Stock 0 (arrL [0,0,0]) (fun k=>by
  rw [if_neg (by omega)]
  unfold arrL
  match k with
  | 0=>rfl
  | 1=>rfl
  | 2=>rfl
  | k+3=>rfl) (fun j s w hj hx hw=>by
  rw [Nat.sub_zero] at hx
  have hlt:j<b.Stock.length:=(List.getElem?_eq_some_iff.1 hx).1
  refine ⟨aset w j (ndOf b h j),?_,fun k=>?_⟩
  ·unfold g103_5
   have:((h:Int)==-1)=false:=by
    rw [beq_eq_false_iff_ne];omega
   rw [this,ixN_nat (by omega),hm h j hh hlt]
   rfl
  ·rw [aset_g,hw]
   by_cases e:k=j
   ·subst e;rw [if_pos rfl,if_pos (by omega)]
   ·rw [if_neg e]
    by_cases e2:k<j
    ·rw [if_pos e2,if_pos (by omega)]
    ·rw [if_neg e2,if_neg (by omega)])
 refine ⟨w,?_,fun k=>?_⟩
 ·unfold g103 g101
  rw [bsm]
  rw [show ((0:Nat):Int)=0 from rfl] at e
  rw [e,bsm]
 ·rw [hw,Nat.zero_add]
def wlS (bald:List Int) (kind:Nat):List (List Int)→Nat→List Int
 | [],_=>[]
 | l::ls,h=>(bif decide ((h:Int)∈bald) then [] else [(l[kind]?).getD 0])++wlS bald kind ls (h+1)
def sumL:List Int→Int
 | []=>0
 | x::xs=>x+sumL xs
def want (b:HarnessBook) (kind:Nat):Int:=sumL (wlS (baldL b) kind b.Needs 0)
def lowOf (b:HarnessBook) (k:Nat):Int:=match b.Stock[k]? with | some s=>s.Low | none=>0
def highOf (b:HarnessBook) (k:Nat):Int:=match b.Stock[k]? with | some s=>s.High | none=>0
theorem st_bd {b:HarnessBook} (ok:HaOk b) (k:Nat):0≤lowOf b k∧lowOf b k≤highOf b k∧highOf b k≤40:=by
 unfold lowOf highOf
 cases h:b.Stock[k]? with
 | none=>simp
 | some s=>have:=ok.st s (List.mem_of_getElem? h);simp only;omega
theorem dressed_bind:((g24).bind fun t2=>some t2)=some true:=by rw [dressed_ok];rfl
end Go.Proofs.YtjooihelppcfkaaDoor
namespace Go.Proofs.YtjooihelppcfkaaDoor
open Go Go.Abs Go.Proofs.Tr
theorem hb19_l1 (b:HarnessBook) (hl:b.Stock.length<900) (s:Bool):whileC (g19_16 b) 1000 (s,0)=some (s&&b.Stock.all okSt):=by
 have h0:∀ i,g19_16 b (false,i)=some (.brk false):=fun i=>by simp [g19_16,bsm]
 cases s with
 | false=>rw [whileC,h0];rfl
 | true=>
  have:=while_all (f:=g19_16 b) (p:=okSt) (xs:=b.Stock) hl h0 (by simp [g19_16,bsm]) (fun i x hx=>by
   have hi:i<b.Stock.length:=(List.getElem?_eq_some_iff.1 hx).1
   simp only [g19_16,cond_true,bsm,ixL_nat,hx,g70]
   have:decide ((i:Int)<(b.Stock.length:Int))=true:=by simp [hi]
   rw [this,wr_nat (by omega)]
   simp only [cond_true,bsm,okSt,rg]
   cases decide (0≤x.Low)&&decide (x.Low≤x.High)&&decide (x.High≤40)<;>rfl) b.Stock.length 0 (by omega) 1000 (by omega)
  simpa using this
theorem hb19_l3 (l:List Int) (hl:l.length<900) (s:Bool):whileC (g19_39 l) 1000 (s,0)=some (s&&l.all fun n=>rg n 0 9):=by
 have h0:∀ i,g19_39 l (false,i)=some (.brk false):=fun i=>by simp [g19_39,bsm]
 cases s with
 | false=>rw [whileC,h0];rfl
 | true=>
  have:=while_all (f:=g19_39 l) (p:=fun n=>rg n 0 9) (xs:=l) hl h0 (by simp [g19_39,bsm]) (fun i x hx=>by
   have hi:i<l.length:=(List.getElem?_eq_some_iff.1 hx).1
   simp only [g19_39,cond_true,bsm,ixL_nat,hx,hb44,cs,Bool.cond_false_right]
   have:decide ((i:Int)<(l.length:Int))=true:=by simp [hi]
   rw [this,wr_nat (by omega)]
   simp only [cond_true]) l.length 0 (by omega) 1000 (by omega)
  simpa using this
theorem hb19_l2 {b:HarnessBook} (hl:b.Needs.length<900) (hs:b.Stock.length<900) (s:Bool):whileC (g19_29 b) 1000 (s,0)=some (s&&b.Needs.all (okNd (b.Stock.length:Int))):=by
 have h0:∀ i,g19_29 b (false,i)=some (.brk false):=fun i=>by simp [g19_29,bsm]
 cases s with
 | false=>rw [whileC,h0];rfl
 | true=>
  have:=while_all (f:=g19_29 b) (p:=okNd (b.Stock.length:Int)) (xs:=b.Needs) hl h0 (by simp [g19_29,bsm]) (fun i x hx=>by
   have hi:i<b.Needs.length:=(List.getElem?_eq_some_iff.1 hx).1
   simp only [g19_29,cond_true,bsm,ixL_nat,hx,okNd,cs,Bool.cond_false_right]
   have:decide ((i:Int)<(b.Needs.length:Int))=true:=by simp [hi]
   rw [this,wr_nat (by omega)]
   cases hc:decide ((x.length:Int)=(b.Stock.length:Int)) with
   | false=>
    have:whileC (g19_39 x) 1000 (false,0)=some false:=by rw [whileC];simp [g19_39,bsm]
    simp only [cond_true,this,bsm,Bool.false_and]
   | true=>
    have hx9:x.length<900:=by have:=of_decide_eq_true hc;omega
    simp only [cond_true,hb19_l3 x hx9,bsm]) b.Needs.length 0 (by omega) 1000 (by omega)
  simpa using this
theorem hb19 (b:HarnessBook):g19 b=some (bif okHa b then 0 else 100):=by
 unfold g19
 rw [p18,bsm]
 have e:decide ((bif okH b.Hair then (0:Int) else 60)=0)=okH b.Hair:=by cases okH b.Hair<;>rfl
 simp only [e,hb44,bsm,cs,Bool.cond_false_right]
 have e1:whileC (g19_16 b) 1000 (false,0)=some false:=by rw [whileC];simp [g19_16,bsm]
 have e2:whileC (g19_29 b) 1000 (false,0)=some false:=by rw [whileC];simp [g19_29,bsm]
 cases hv:(okH b.Hair&&rg (b.Stock.length:Int) 1 3&&decide ((b.Needs.length:Int)=(b.Hair.Horses.length:Int))&&rg b.Pack 1 12&&rg b.Bad 0 (wr (b.Pack - 1))) with
 | false=>
  simp only [e1,e2,bsm]
  unfold okHa
  rw [hv];rfl
 | true=>
  have hv':=hv
  simp only [Bool.and_eq_true,decide_eq_true_eq,rg_iff] at hv'
  obtain ⟨⟨⟨⟨q1,q2⟩,q3⟩,_⟩,_⟩:=hv'
  have h3:=(okH_of q1).l3
  rw [hb19_l1 b (by omega)]
  simp only [bsm]
  rw [hb19_l2 (by omega) (by omega)]
  simp only [bsm]
  unfold okHa
  rw [hv]
  cases true&&b.Stock.all okSt&&b.Needs.all (okNd (b.Stock.length:Int))<;>rfl
theorem factU:((List.range 4).all fun T=>(List.range (2 ^ T)).all fun s=>(List.range (2 ^ T)).all fun t=>decide (s=t)||!decide (rk T s=rk T t))=true:=by kernel_rfl
theorem fU {T s t:Nat} (hT:T≤3) (hs:s<2 ^ T) (ht:t<2 ^ T) (h:rk T s=rk T t):s=t:=by
 have:=all3 factU hT hs ht
 rw [Bool.or_eq_true,Bool.not_eq_true',decide_eq_true_eq,decide_eq_false_iff_not] at this
 exact this.resolve_right fun hc=>hc h
theorem lack_uniq {b:HairBook} (h3:b.Horses.length≤3) {t u:Nat} (ht:LackIs b t) (hu:LackIs b u):t=u:=by
 have h1:=ht.le u hu.lt hu.sv
 have h2:=hu.le t ht.lt ht.sv
 exact fU h3 ht.lt hu.lt (by omega)
theorem hb96 {b:HarnessBook} (ok:HaOk b):g96 b.Hair=some (baldL b,0):=by
 obtain ⟨t,ht,et⟩:=p29 ok.ok
 obtain ⟨u,hu,eu⟩:=p30 ok.ok
 have h3:=(okH_of ok.ok).l3
 have:=lack_uniq h3 ht hu
 subst this
 unfold baldL
 rw [et,eu];rfl
def hlS (bald:List Int):List (List Int)→Nat→List Int
 | [],_=>[]
 | _::ls,h=>(bif decide ((h:Int)∈bald) then [] else [(h:Int)])++hlS bald ls (h+1)
def hairL (b:HarnessBook):List Int:=hlS (baldL b) b.Needs 0
theorem hb65_loop (bald:List Int):∀ (ls:List (List Int)) (h:Nat) (acc:List Int),acc.length+ls.length≤1000→eachS (g65_4 bald) ls (h:Int) acc=some (acc++hlS bald ls h)
 | [],h,acc,hn=>by rw [eachS,hlS,List.append_nil]
 | l::ls,h,acc,hn=>by
  rw [List.length_cons] at hn
  obtain ⟨r,er,hr⟩:=p96 bald (h:Int)
  have e:(h:Int)+1=((h+1:Nat):Int):=by omega
  rw [eachS,g65_4,er,bsm]
  by_cases hc:(h:Int)∈bald
  ·rw [decide_eq_false (by have:=hr.2 hc;omega),cond_false,bsm,e,hb65_loop bald ls (h+1) acc (by omega),hlS,decide_eq_true hc]
   rfl
  ·rw [decide_eq_true (by have:¬ 0≤r:=fun h=>hc (hr.1 h);omega),cond_true,appL_ok (by rw [List.length_append,List.length_singleton];omega),bsm,bsm,e,hb65_loop bald ls (h+1) _ (by rw [List.length_append,List.length_singleton];omega),hlS,decide_eq_false hc]
   simp
theorem hb65 {b:HarnessBook} (ok:HaOk b):g65 b=some (hairL b):=by
 have h3:=ok.n3
 unfold g65
 rw [hb96 ok,bsm]
 simp only
 have:=hb65_loop (baldL b) b.Needs 0 [] (by simp;omega)
 rw [show ((0:Nat):Int)=0 from rfl] at this
 rw [this,bsm,List.nil_append]
 rfl
theorem hb17 (l:List Int) (hl:l.length<900):g17 l l=some true:=by
 have h0:∀ i,g17_4 l l (false,i)=some (.brk false):=fun i=>by simp [g17_4,bsm]
 have:=while_all (f:=g17_4 l l) (p:=fun _=>true) (xs:=l) hl h0 (by simp [g17_4,bsm]) (fun i x hx=>by
  have hi:i<l.length:=(List.getElem?_eq_some_iff.1 hx).1
  simp only [g17_4,cond_true,bsm,ixL_nat,hx]
  have:decide ((i:Int)<(l.length:Int))=true:=by simp [hi]
  rw [this,wr_nat (by omega)]
  simp) l.length 0 (by omega) 1000 (by omega)
 unfold g17
 rw [decide_eq_true rfl]
 rw [show ((0:Nat):Int)=0 from rfl] at this
 rw [this]
 simp [bsm]
end Go.Proofs.YtjooihelppcfkaaDoor
namespace Go.Proofs.YtjooihelppcfkaaDoor
open Go Go.Abs Go.Proofs.Tr
def arr (l:List Int):Nat→Int:=fun k=>(l[k]?).getD 0
theorem arr_nil:arrL [0,0,0]=arr []:=by
 funext k
 unfold arrL arr
 match k with
 | 0=>rfl
 | 1=>rfl
 | 2=>rfl
 | k+3=>rfl
theorem aset_arr (pre:List Int) (y:Int):aset (arr pre) pre.length y=arr (pre++[y]):=by
 funext k
 rw [aset_g]
 unfold arr
 by_cases h:k=pre.length
 ·subst h;rw [if_pos rfl,List.getElem?_append_right (Nat.le_refl _),Nat.sub_self];rfl
 ·rw [if_neg h]
  by_cases h2:k<pre.length
  ·rw [List.getElem?_append_left h2]
  ·rw [List.getElem?_eq_none (by omega),List.getElem?_eq_none (by simp;omega)]
theorem aset_arr2 (pre:List Int) (x y:Int):aset (arr (pre++[x])) pre.length y=arr (pre++[y]):=by
 funext k
 rw [← aset_arr,← aset_arr,aset_g,aset_g,aset_g]
 by_cases h:k=pre.length
 ·rw [if_pos h,if_pos h]
 ·rw [if_neg h,if_neg h,if_neg h]
def truL:List Span→List (List Int)
 | []=>[[]]
 | s::ss=>(List.range' 0 (s.High - s.Low+1).toNat).flatMap fun (n:Nat)=>(truL ss).map ((s.Low+(n:Int))::·)
theorem foldl_flatMap {α β S:Type} (f:S→β→S) (g:α→List β):∀ (l:List α) (s:S),(l.flatMap g).foldl f s=l.foldl (fun s a=>(g a).foldl f s) s
 | [],s=>rfl
 | a::l,s=>by rw [List.flatMap_cons,List.foldl_append,List.foldl_cons,foldl_flatMap f g l]
theorem hb100_for {S V:Type} (emb:V→S) (step:V→List Int→V) {rec_:(Nat→Int)→Int→HarnessBook→(List Int)→(List (Harness_want×Int))→S→Option (Bool×S)} {b:HarnessBook} {bald:List Int} {m:List (Harness_want×Int)} {s0:Span} {pre:List Int} (hp:pre.length<3) (hs:0≤s0.Low∧s0.Low≤s0.High∧s0.High≤40) (M:Int→List (List Int))
  (IH:∀ (y:Int) v,s0.Low≤y→y≤s0.High→rec_ (arr (pre++[y])) ((pre.length:Int)+1) b bald m (emb v)=some (true,emb ((M y).foldl step v))) :
  ∀ (n i:Nat) (v:V) (p:Nat→Int),(∀ y,aset p pre.length y=arr (pre++[y]))→i+n=(s0.High - s0.Low+1).toNat →
   ∃ p',forC (g100_10 rec_ (pre.length:Int) b bald m s0) n (i:Int) (emb v,p)=some (.next (emb ((List.range' i n).foldl (fun v (j:Nat)=>(M (s0.Low+(j:Int))).foldl step v) v),p'))
 | 0,i,v,p,hq,hn=>⟨p,rfl⟩
 | n+1,i,v,p,hq,hn=>by
  have e:(i:Int)+1=((i+1:Nat):Int):=by omega
  have hb:g100_10 rec_ (pre.length:Int) b bald m s0 (i:Int) (emb v,p)=some (.next (emb ((M (s0.Low+(i:Int))).foldl step v),arr (pre++[s0.Low+(i:Int)]))):=by
   unfold g100_10
   simp only
   rw [ixN_nat hp,bsm,wr_in (n:=s0.Low+(i:Int)) (by omega) (by omega),hq,wr_in (n:=(pre.length:Int)+1) (by omega) (by omega),IH _ _ (by omega) (by omega),bsm]
   rfl
  obtain ⟨p',h'⟩:=hb100_for emb step hp hs M IH n (i+1) ((M (s0.Low+(i:Int))).foldl step v) (arr (pre++[s0.Low+(i:Int)])) (fun y=>aset_arr2 pre _ y) (by omega)
  refine ⟨p',?_⟩
  rw [forC,hb,bsm]
  simp only
  rw [e,h',List.range'_succ,List.foldl_cons]
theorem hb100 {S V:Type} (c:(Nat→Int)→S→Option (S×Bool)) (emb:V→S) (step:V→List Int→V) {b:HarnessBook} (ok:HaOk b) (bald:List Int) (m:List (Harness_want×Int)):∀ (ss:List Span) (pre:List Int) (n:Nat) (v:V),pre.length+ss.length=b.Stock.length→(∀ (j:Nat) s,ss[j]?=some s→b.Stock[pre.length+j]?=some s)→ss.length+1≤n →
  (∀ t,t∈(truL ss).map (pre++·)→∀ v,c (arr t) (emb v)=some (emb (step v t),true))→g100 c n (arr pre) (pre.length:Int) b bald m (emb v)=some (true,emb (((truL ss).map (pre++·)).foldl step v))
 | ss,pre,0,v,hl,hs,hn,hc=>by omega
 | [],pre,n+1,v,hl,hs,hn,hc=>by
  rw [g100]
  rw [decide_eq_true (by simp only [List.length_nil] at hl;omega),cond_true,hc pre (by simp [truL]),bsm]
  simp [truL]
 | s0::ss,pre,n+1,v,hl,hs,hn,hc=>by
  rw [List.length_cons] at hl hn
  have h3:=ok.s3
  have hx:b.Stock[pre.length]?=some s0:=hs 0 s0 rfl
  have hb:=ok.st s0 (List.mem_of_getElem? hx)
  have hmem:∀ y,s0.Low≤y→y≤s0.High→∀ t,t∈(truL ss).map ((pre++[y])++·)→t∈(truL (s0::ss)).map (pre++·):=fun y h1 h2 t ht=>by
   obtain ⟨u,hu,rfl⟩:=List.mem_map.1 ht
   refine List.mem_map.2 ⟨y::u,?_,by simp⟩
   unfold truL
   refine List.mem_flatMap.2 ⟨(y - s0.Low).toNat,?_,?_⟩
   ·rw [List.mem_range'_1];omega
   ·rw [show s0.Low+((y - s0.Low).toNat:Int)=y by omega]
    exact List.mem_map.2 ⟨u,hu,rfl⟩
  have IH:=fun (y:Int) (v:V) (h1:s0.Low≤y) (h2:y≤s0.High)=>hb100 c emb step ok bald m ss (pre++[y]) n v (by simp;omega) (fun j s hj=>by
   have:=hs (j+1) s hj
   rw [List.length_append,List.length_singleton]
   rwa [show pre.length+1+j=pre.length+(j+1) by omega]) (by omega) (fun t ht=>hc t (hmem y h1 h2 t ht))
  obtain ⟨p',hf⟩:=hb100_for emb step (rec_:=g100 c n) (b:=b) (bald:=bald) (m:=m) (s0:=s0) (pre:=pre) (by omega) ⟨hb.1,hb.2.1,hb.2.2.1⟩ (fun y=>(truL ss).map ((pre++[y])++·)) (fun y v h1 h2=>by
   have:=IH y v h1 h2
   rw [List.length_append,List.length_singleton] at this
   rw [show ((pre.length:Int)+1)=((pre.length+1:Nat):Int) by omega]
   exact this) (s0.High - s0.Low+1).toNat 0 v (arr pre) (fun y=>aset_arr pre y) (by omega)
  rw [g100]
  rw [decide_eq_false (by omega),cond_false,ixL_nat,hx,bsm,wr_in (n:=s0.High - s0.Low) (by omega) (by omega),wr_in (n:=s0.High - s0.Low+1) (by omega) (by omega),Int.sub_zero]
  rw [show ((0:Nat):Int)=0 from rfl] at hf
  rw [hf]
  show some (true,_)=_
  congr 3
  rw [truL,List.map_flatMap,foldl_flatMap]
  congr 1
  funext v j
  rw [List.map_map]
  congr 2
  funext u
  simp
theorem hb99 {S V:Type} (c:(Nat→Int)→S→Option (S×Bool)) (emb:V→S) (step:V→List Int→V) {b:HarnessBook} (ok:HaOk b) (bald:List Int) (m:List (Harness_want×Int)) (v:V) (hc:∀ t,t∈truL b.Stock→∀ v,c (arr t) (emb v)=some (emb (step v t),true)):g99 c b bald m (emb v)=some (emb ((truL b.Stock).foldl step v)):=by
 have h3:=ok.s3
 have e:(truL b.Stock).map (([]:List Int)++·)=truL b.Stock:=by simp
 have:=hb100 c emb step ok bald m b.Stock [] 1000 v (by simp) (fun j s hj=>by simpa using hj) (by omega) (fun t ht=>by rw [e] at ht;exact hc t ht)
 rw [e] at this
 unfold g99 g101
 rw [bsm,arr_nil]
 rw [show (([]:List Int).length:Int)=0 from rfl] at this
 rw [this,bsm]
theorem truL_len:∀ (ss:List Span),(∀ s,s∈ss→s.Low≤s.High∧s.High - s.Low≤4)→1≤(truL ss).length∧(truL ss).length≤5 ^ ss.length
 | [],h=>⟨Nat.le_refl _,Nat.le_refl _⟩
 | s::ss,h=>by
  obtain ⟨h1,h2⟩:=truL_len ss (fun x hx=>h x (by simp [hx]))
  have hs:=h s (by simp)
  have e:(truL (s::ss)).length=(s.High - s.Low+1).toNat*(truL ss).length:=by
   rw [truL,List.length_flatMap]
   simp only [List.length_map]
   rw [List.map_const',List.sum_replicate_nat,List.length_range']
  rw [e,List.length_cons,Nat.pow_succ,Nat.mul_comm (5 ^ ss.length)]
  obtain ⟨n,hn⟩:∃ n,(s.High - s.Low+1).toNat=n+1:=⟨(s.High - s.Low).toNat,by omega⟩
  rw [hn]
  refine ⟨?_,Nat.mul_le_mul (by omega) h2⟩
  have:=Nat.le_mul_of_pos_left (truL ss).length (show 0<n+1 by omega)
  omega
theorem truL_mem:∀ (ss:List Span) (t:List Int),t∈truL ss→t.length=ss.length∧∀ (k:Nat) s,ss[k]?=some s→∃ x,t[k]?=some x∧s.Low≤x∧x≤s.High
 | [],t,ht=>by
  simp only [truL,List.mem_singleton] at ht
  subst ht
  exact ⟨rfl,fun k s h=>by simp at h⟩
 | s0::ss,t,ht=>by
  unfold truL at ht
  obtain ⟨n,hn,ht⟩:=List.mem_flatMap.1 ht
  obtain ⟨u,hu,rfl⟩:=List.mem_map.1 ht
  obtain ⟨h1,h2⟩:=truL_mem ss u hu
  rw [List.mem_range'_1] at hn
  refine ⟨by simp [h1],fun k s hk=>?_⟩
  cases k with
  | zero=>
   simp at hk;subst hk
   exact ⟨s0.Low+(n:Int),rfl,by omega,by omega⟩
  | succ k=>simpa using h2 k s (by simpa using hk)
theorem hb94_for {b:HarnessBook} {rec_:HarnessBook→(List Int)→Option (List (List Int))} {s0:Span} {pre:List Int} (hp:pre.length<3) (M:Int→List (List Int)) (K:Nat) (hM:∀ y,(M y).length≤K)
  (IH:∀ (y:Int),s0.Low≤y→y≤s0.High→rec_ b (pre++[y])=some (M y)):∀ (n i:Nat) (acc:List (List Int)),i+n=(s0.High - s0.Low+1).toNat→acc.length+n*K≤1000 →
   forS (g94_8 rec_ b pre) n (s0.Low+(i:Int)) acc=some (acc++(List.range' i n).flatMap fun (j:Nat)=>M (s0.Low+(j:Int)))
 | 0,i,acc,hn,hk=>by simp [forS]
 | n+1,i,acc,hn,hk=>by
  rw [Nat.add_mul,Nat.one_mul] at hk
  have hm:=hM (s0.Low+(i:Int))
  have e:s0.Low+(i:Int)+1=s0.Low+((i+1:Nat):Int):=by omega
  rw [forS,g94_8,p109 pre _ (by omega),bsm,IH _ (by omega) (by omega),bsm,appL_ok (by rw [List.length_append];omega),bsm,bsm,e,hb94_for hp M K hM IH n (i+1) _ (by omega) (by rw [List.length_append];omega),List.range'_succ,List.flatMap_cons,List.append_assoc]
theorem hb94 {b:HarnessBook} (ok:HaOk b):∀ (ss:List Span) (pre:List Int) (n:Nat),pre.length+ss.length=b.Stock.length→(∀ (j:Nat) s,ss[j]?=some s→b.Stock[pre.length+j]?=some s)→ss.length+1≤n→g94 n b pre=some ((truL ss).map (pre++·))
 | ss,pre,0,hl,hs,hn=>by omega
 | [],pre,n+1,hl,hs,hn=>by
  rw [g94]
  rw [decide_eq_true (by simp only [List.length_nil] at hl;omega),cond_true]
  simp [truL]
 | s0::ss,pre,n+1,hl,hs,hn=>by
  rw [List.length_cons] at hl hn
  have h3:=ok.s3
  have hx:b.Stock[pre.length]?=some s0:=hs 0 s0 rfl
  have hb:=ok.st s0 (List.mem_of_getElem? hx)
  have hss:∀ s,s∈ss→s.Low≤s.High∧s.High - s.Low≤4:=fun s h=>by
   obtain ⟨j,hj⟩:=List.getElem?_of_mem h
   have:=ok.st s (List.mem_of_getElem? (hs (j+1) s hj))
   omega
  have hlen:=(truL_len ss hss).2
  have h25:5 ^ ss.length≤25:=by
   have:ss.length≤2:=by omega
   exact Nat.le_trans (Nat.pow_le_pow_right (by omega) this) (by decide)
  have IH:=fun (y:Int) (h1:s0.Low≤y) (h2:y≤s0.High)=>hb94 ok ss (pre++[y]) n (by simp;omega) (fun j s hj=>by
   have:=hs (j+1) s hj
   rw [List.length_append,List.length_singleton]
   rwa [show pre.length+1+j=pre.length+(j+1) by omega]) (by omega)
  have hf:=hb94_for (b:=b) (rec_:=g94 n) (s0:=s0) (pre:=pre) (by omega) (fun y=>(truL ss).map ((pre++[y])++·)) 25 (fun y=>by rw [List.length_map];omega) IH (s0.High - s0.Low+1).toNat 0 [] (by omega) (by simp;omega)
  rw [g94]
  rw [decide_eq_false (by omega),cond_false,ixL_nat,hx,bsm,must_t (by simp;omega),bsm,must_t (by simp;omega),bsm,show s0.High+1 - s0.Low=s0.High - s0.Low+1 by omega]
  rw [show s0.Low+((0:Nat):Int)=s0.Low by omega] at hf
  rw [hf,bsm,bsm,bsm,List.nil_append]
  congr 1
  rw [truL,List.map_flatMap]
  congr 1
  funext j
  rw [List.map_map]
  congr 1
  funext u
  simp
theorem hb94_all {b:HarnessBook} (ok:HaOk b):g94 1000 b []=some (truL b.Stock):=by
 have h3:=ok.s3
 have:=hb94 ok b.Stock [] 1000 (by simp) (fun j s hj=>by simpa using hj) (by omega)
 simpa using this
end Go.Proofs.YtjooihelppcfkaaDoor
namespace Go.Proofs.YtjooihelppcfkaaDoor
open Go Go.Abs Go.Proofs.Tr
def rowOf (b:HarnessBook) (h:Nat):List Int:=(b.Needs[h]?).getD []
def leAll (n:Nat) (row left:List Int):Bool:=(List.range' 0 n).all fun (k:Nat)=>decide (arr row k≤arr left k)
def midA (n j:Nat) (left row:List Int):List Int:=(List.range n).map fun (k:Nat)=>bif decide (k<j) then arr left k - arr row k else arr left k
def subA (n:Nat) (left row:List Int):List Int:=midA n n left row
def canS (b:HarnessBook) (left:List Int) (h:Nat):Bool:=!decide ((h:Int)∈baldL b)&&leAll b.Stock.length (rowOf b h) left
def dayStep (b:HarnessBook) (s:Int×List Int) (h:Nat):Int×List Int:=bif canS b s.2 h then (bOr s.1 (shl64 1 (h:Int)),subA b.Stock.length s.2 (rowOf b h)) else s
def dayS (b:HarnessBook) (order:List Nat) (t:List Int):Int:=(order.foldl (dayStep b) (0,t)).1
structure LeftOk (b:HarnessBook) (l:List Int):Prop where
 len:l.length=b.Stock.length
 bd:∀ k:Nat,0≤arr l k∧arr l k≤1000
theorem midA_len (n j:Nat) (left row:List Int):(midA n j left row).length=n:=by simp [midA]
theorem midA_get {n j k:Nat} (left row:List Int) (h:k<n):(midA n j left row)[k]?=some (bif decide (k<j) then arr left k - arr row k else arr left k):=by
 unfold midA
 rw [List.getElem?_map,List.getElem?_range h];rfl
theorem arr_mid {n j k:Nat} (left row:List Int) (h:k<n):arr (midA n j left row) k=bif decide (k<j) then arr left k - arr row k else arr left k:=by
 show ((midA n j left row)[k]?).getD 0=_
 rw [midA_get left row h];rfl
theorem arr_out {l:List Int} {k:Nat} (h:l.length≤k):arr l k=0:=by
 unfold arr
 rw [List.getElem?_eq_none h];rfl
theorem arr_in {l:List Int} {k:Nat} (h:k<l.length):l[k]?=some (arr l k):=by
 unfold arr
 rw [List.getElem?_eq_getElem h];rfl
theorem leAll_iff {n:Nat} {row left:List Int}:leAll n row left=true↔∀ k,k<n→arr row k≤arr left k:=by
 unfold leAll
 rw [List.all_eq_true]
 constructor
 ·intro h k hk
  have:=h k (by rw [List.mem_range'_1];omega)
  exact of_decide_eq_true this
 ·intro h k hk
  rw [List.mem_range'_1] at hk
  exact decide_eq_true (h k (by omega))
theorem row_bd {b:HarnessBook} (ok:HaOk b) {h:Nat} (hh:h<b.Needs.length):(rowOf b h).length=b.Stock.length∧∀ k,0≤arr (rowOf b h) k∧arr (rowOf b h) k≤9:=by
 have hx:b.Needs[h]?=some b.Needs[h]:=List.getElem?_eq_getElem hh
 have:=ok.nd _ (List.mem_of_getElem? hx)
 unfold rowOf
 rw [hx]
 refine ⟨this.1,fun k=>?_⟩
 show 0≤arr b.Needs[h] k∧arr b.Needs[h] k≤9
 by_cases hk:k<b.Needs[h].length
 ·have h2:=arr_in hk
  exact this.2 _ (List.mem_of_getElem? h2)
 ·rw [arr_out (by omega)];decide
theorem dayStep_ok {b:HarnessBook} (ok:HaOk b) {h:Nat} (hh:h<b.Needs.length) {s:Int×List Int} (hs:LeftOk b s.2):LeftOk b (dayStep b s h).2:=by
 unfold dayStep
 cases hc:canS b s.2 h with
 | false=>exact hs
 | true=>
  unfold canS at hc
  rw [Bool.and_eq_true] at hc
  have h1:=leAll_iff.1 hc.2
  have h2:=(row_bd ok hh).2
  refine ⟨midA_len _ _ _ _,fun k=>?_⟩
  show 0≤arr (subA b.Stock.length s.2 (rowOf b h)) k∧arr (subA b.Stock.length s.2 (rowOf b h)) k≤1000
  unfold subA
  by_cases hk:k<b.Stock.length
  ·rw [arr_mid _ _ hk,decide_eq_true hk,cond_true]
   have:=h1 k hk
   have:=h2 k
   have:=hs.bd k
   omega
  ·rw [arr_out (by rw [midA_len];omega)];decide
theorem tru_left {b:HarnessBook} (ok:HaOk b) {t:List Int} (ht:t∈truL b.Stock):LeftOk b t:=by
 obtain ⟨h1,h2⟩:=truL_mem _ _ ht
 refine ⟨h1,fun k=>?_⟩
 by_cases hk:k<b.Stock.length
 ·have hs:b.Stock[k]?=some b.Stock[k]:=List.getElem?_eq_getElem hk
  obtain ⟨x,hx,a1,a2⟩:=h2 k _ hs
  have:=ok.st _ (List.mem_of_getElem? hs)
  unfold arr
  rw [hx]
  show 0≤x∧x≤1000
  omega
 ·rw [arr_out (by omega)];decide
theorem eachC_idx {α R:Type} {f:Int→α→Unit→Option (Ctl Unit R)} (p:Nat→Bool) (r:R):∀ (xs:List α) (i:Nat),(∀ (j:Nat) x,i≤j→j<i+xs.length→f (j:Int) x ()=some (bif p j then .next () else .brk r))→eachC f xs (i:Int) ()=some (bif (List.range' i xs.length).all p then .next () else .brk r)
 | [],i,h=>rfl
 | x::xs,i,h=>by
  rw [eachC,h i x (Nat.le_refl _) (by simp),bsm,List.length_cons,List.range'_succ,List.all_cons]
  cases hp:p i with
  | false=>rfl
  | true=>
   simp only [cond_true,Bool.true_and]
   rw [show (i:Int)+1=((i+1:Nat):Int) by omega]
   exact eachC_idx p r xs (i+1) (fun j y hj hl=>h j y (by omega) (by rw [List.length_cons];omega))
theorem hb73_4 {b:HarnessBook} (ok:HaOk b) {m:List (Harness_want×Int)} (hm:NdOk b m) {h:Nat} (hh:h<b.Needs.length) {set_:Int} {left:List Int} (hl:LeftOk b left) (i:Int) :
  g73_4 b (baldL b) m i (h:Int) (set_,arr left)=some ((dayStep b (set_,left) h).1,arr (dayStep b (set_,left) h).2):=by
 have h3:=ok.s3
 have hrow:=row_bd ok hh
 unfold g73_4 dayStep canS
 simp only
 rw [hb102,bsm]
 cases hc:decide ((h:Int)∈baldL b) with
 | true=>rfl
 | false=>
  obtain ⟨w,ew,hw⟩:=hb103 ok hm (baldL b) hh
  have hwr:∀ k:Nat,w k=arr (rowOf b h) k:=fun k=>by
   rw [hw]
   have hx:b.Needs[h]?=some b.Needs[h]:=List.getElem?_eq_getElem hh
   by_cases hk:k<b.Stock.length
   ·rw [if_pos hk]
    unfold ndOf rowOf arr
    rw [Int.toNat_natCast,hx,Int.toNat_natCast]
    rfl
   ·rw [if_neg hk,arr_out (by omega)]
  have hwe:w=arr (rowOf b h):=funext hwr
  subst hwe
  simp only [Bool.not_false,Bool.not_true,cond_false,Bool.true_and]
  rw [ew,bsm]
  have hE:=eachC_idx (f:=g73_17 set_ (arr left) (arr (rowOf b h))) (fun k=>decide (arr (rowOf b h) k≤arr left k)) (set_,arr left) b.Stock 0 (fun j x hj hlt=>by
   have hj3:j<3:=by omega
   unfold g73_17 g101
   rw [bsm]
   have hn:=hrow.2 j
   have hb:=hl.bd j
   cases hz:(true != (((arr (rowOf b h) 0)==(arrL [0,0,0] 0))&&(((arr (rowOf b h) 1)==(arrL [0,0,0] 1))&&(((arr (rowOf b h) 2)==(arrL [0,0,0] 2))&&true)))) with
   | true=>
    simp only [cond_true]
    rw [ixN_nat hj3,bsm,bsm]
    by_cases hlt:arr left j<arr (rowOf b h) j
    ·rw [decide_eq_true hlt,decide_eq_false (by omega)];rfl
    ·rw [decide_eq_false hlt,decide_eq_true (by omega)];rfl
   | false=>
    simp only [cond_false]
    have h0:arr (rowOf b h) j=0:=by
     simp only [bne_eq_false_iff_eq,Bool.true_eq,Bool.and_eq_true,beq_iff_eq] at hz
     obtain ⟨z0,z1,z2,_⟩:=hz
     match j,hj3 with
     | 0,_=>exact z0
     | 1,_=>exact z1
     | 2,_=>exact z2
    rw [h0,decide_eq_true hb.1];rfl)
  rw [show ((0:Nat):Int)=0 from rfl] at hE
  rw [hE]
  show ((bindC (some (bif leAll b.Stock.length (rowOf b h) left then _ else _)) _).bind _)=_
  cases hle:leAll b.Stock.length (rowOf b h) left with
  | false=>rfl
  | true=>
   have hs:=leAll_iff.1 hle
   simp only [cond_true,bindC]
   obtain ⟨p5,e5,h5⟩:=eachS_inv (f:=g73_31 (arr (rowOf b h))) (fun n p=>∀ k:Nat,p k=if k<n then arr left k - arr (rowOf b h) k else arr left k) b.Stock 0 (arr left) (fun k=>by rw [if_neg (by omega)]) (fun j x p hj hx hp=>by
    rw [Nat.sub_zero] at hx
    have hlt:j<b.Stock.length:=(List.getElem?_eq_some_iff.1 hx).1
    have hb:=hl.bd j
    have hn:=hrow.2 j
    refine ⟨aset p j (arr left j - arr (rowOf b h) j),?_,fun k=>?_⟩
    ·unfold g73_31
     rw [ixN_nat (by omega),bsm,bsm,bsm,hp j,if_neg (by omega),wr_in (by omega) (by omega)]
    ·rw [aset_g,hp]
     by_cases e:k=j
     ·subst e;rw [if_pos rfl,if_pos (by omega)]
     ·rw [if_neg e]
      by_cases e2:k<j
      ·rw [if_pos e2,if_pos (by omega)]
      ·rw [if_neg e2,if_neg (by omega)])
   have hp5:p5=arr (subA b.Stock.length left (rowOf b h)):=by
    funext k
    rw [h5,Nat.zero_add]
    unfold subA
    by_cases hk:k<b.Stock.length
    ·rw [if_pos hk,arr_mid _ _ hk,decide_eq_true hk];rfl
    ·rw [if_neg hk,arr_out (l:=left) (by rw [hl.len];omega),arr_out (by rw [midA_len];omega)]
   rw [show ((0:Nat):Int)=0 from rfl] at e5
   rw [e5,bsm,must_t (by simp),bsm,bsm,hp5]
theorem hb73 {b:HarnessBook} (ok:HaOk b) {m:List (Harness_want×Int)} (hm:NdOk b m) {order:List Nat} (ho:∀ h,h∈order→h<b.Needs.length) {t:List Int} (ht:LeftOk b t) :
  g73 b (baldL b) m (arr t) (order.map fun (h:Nat)=>(h:Int))=some (dayS b order t):=by
 have key:∀ (os:List Nat) (i:Int) (s:Int×List Int),(∀ h,h∈os→h<b.Needs.length)→LeftOk b s.2→eachS (g73_4 b (baldL b) m) (os.map fun (h:Nat)=>(h:Int)) i (s.1,arr s.2)=some ((os.foldl (dayStep b) s).1,arr (os.foldl (dayStep b) s).2):=by
  intro os
  induction os with
  | nil=>intro i s h1 h2;rfl
  | cons h os ih=>
   intro i s h1 h2
   rw [List.map_cons,eachS,hb73_4 ok hm (h1 h (by simp)) h2 i,bsm,ih (i+1) (dayStep b s h) (fun x hx=>h1 x (by simp [hx])) (dayStep_ok ok (h1 h (by simp)) h2)]
   rfl
 unfold g73
 rw [key order 0 (0,t) ho ht]
 rfl
theorem hl_mem (bald:List Int):∀ (ls:List (List Int)) (h:Nat) (x:Int),x∈hlS bald ls h↔∃ j:Nat,h≤j∧j<h+ls.length∧x=(j:Int)∧¬ (j:Int)∈bald
 | [],h,x=>by simp [hlS];omega
 | l::ls,h,x=>by
  rw [hlS,List.mem_append,hl_mem bald ls (h+1) x,List.length_cons]
  constructor
  ·rintro (hx | ⟨j,a,c,d,e⟩)
   ·cases hc:decide ((h:Int)∈bald) with
    | true=>rw [hc] at hx;cases hx
    | false=>
     rw [hc] at hx
     simp only [cond_false,List.mem_singleton] at hx
     exact ⟨h,Nat.le_refl _,by omega,hx,of_decide_eq_false hc⟩
   ·exact ⟨j,by omega,by omega,d,e⟩
  ·rintro ⟨j,a,c,d,e⟩
   by_cases hj:j=h
   ·subst hj
    refine .inl ?_
    rw [decide_eq_false e]
    simp [d]
   ·exact .inr ⟨j,by omega,by omega,d,e⟩
theorem hair_mem {b:HarnessBook} {h:Nat} (hh:h<b.Needs.length):(h:Int)∈hairL b↔¬ (h:Int)∈baldL b:=by
 unfold hairL
 rw [hl_mem]
 constructor
 ·rintro ⟨j,_,_,e,f⟩
  have:j=h:=by omega
  subst this;exact f
 ·intro hn
  exact ⟨h,by omega,by omega,rfl,hn⟩
theorem eachS_idx {α:Type} {f:Int→α→Bool→Option Bool} (p:Nat→Bool):∀ (xs:List α) (i:Nat) (s:Bool),(∀ (j:Nat) x s,i≤j→xs[j - i]?=some x→f (j:Int) x s=some (s&&p j))→eachS f xs (i:Int) s=some (s&&(List.range' i xs.length).all p)
 | [],i,s,h=>by simp [eachS]
 | x::xs,i,s,h=>by
  rw [eachS,h i x s (Nat.le_refl _) (by simp),bsm,List.length_cons,List.range'_succ,List.all_cons,← Bool.and_assoc,show (i:Int)+1=((i+1:Nat):Int) by omega]
  exact eachS_idx p xs (i+1) (s&&p i) (fun j y s hj hy=>h j y s (by omega) (by
   have:j - i=(j - (i+1))+1:=by omega
   rw [this,List.getElem?_cons_succ];exact hy))
theorem midA_zero {n:Nat} {left row:List Int} (h:left.length=n):midA n 0 left row=left:=by
 refine List.ext_getElem? fun k=>?_
 by_cases hk:k<n
 ·rw [midA_get left row hk,decide_eq_false (by omega),arr_in (by omega)];rfl
 ·rw [List.getElem?_eq_none (by rw [midA_len];omega),List.getElem?_eq_none (by omega)]
theorem midA_set {n j:Nat} {left row:List Int} (h:j<n):setL (midA n j left row) (j:Int) (arr left j - arr row j)=midA n (j+1) left row:=by
 unfold setL
 rw [Int.toNat_natCast]
 refine List.ext_getElem? fun k=>?_
 by_cases hk:k<n
 ·rw [midA_get left row hk]
  by_cases e:j=k
  ·subst e
   rw [List.getElem?_set_self (by rw [midA_len];omega),decide_eq_true (by omega)];rfl
  ·rw [List.getElem?_set_ne e,midA_get left row hk]
   by_cases e2:k<j
   ·rw [decide_eq_true e2,decide_eq_true (by omega)]
   ·rw [decide_eq_false e2,decide_eq_false (by omega)]
 ·rw [List.getElem?_eq_none (by rw [List.length_set,midA_len];omega),List.getElem?_eq_none (by rw [midA_len];omega)]
theorem hb95_28 {n:Nat} {left row:List Int} (h1:row.length=n) (hn:n≤3) (hb:∀ k,0≤arr left k∧arr left k≤1000) (hr:∀ k,0≤arr row k∧arr row k≤9):∀ (d j f:Nat),j+d=n→d+1≤f→whileC (g95_28 row true) f ((j:Int),midA n j left row)=some (midA n n left row)
 | d,j,0,hd,hf=>by omega
 | 0,j,f+1,hd,hf=>by
  have e:j=n:=by omega
  subst e
  rw [whileC,g95_28]
  simp only [cond_true,bsm]
  rw [decide_eq_false (by omega)]
  rfl
 | d+1,j,f+1,hd,hf=>by
  have a1:=hb j
  have a2:=hr j
  rw [whileC,g95_28]
  simp only [cond_true,bsm]
  rw [decide_eq_true (by omega),cond_true,ixL_nat,midA_get left row (by omega),decide_eq_false (by omega),cond_false,bsm,ixL_nat,arr_in (l:=row) (by omega),bsm,wr_in (n:=arr left j - arr row j) (by omega) (by omega),midA_set (by omega),wr_in (n:=(j:Int)+1) (by omega) (by omega),bsm]
  exact hb95_28 h1 hn hb hr d (j+1) f (by omega) (by omega)
theorem hb95_5 {b:HarnessBook} (ok:HaOk b) {h:Nat} (hh:h<b.Needs.length) {set_:Int} {left:List Int} (hl:LeftOk b left) (i:Int):g95_5 b (hairL b) i (h:Int) (set_,left)=some (dayStep b (set_,left) h):=by
 have h3:=ok.s3
 have hrow:=row_bd ok hh
 have hx:b.Needs[h]?=some (rowOf b h):=by unfold rowOf;rw [List.getElem?_eq_getElem hh];rfl
 obtain ⟨r,er,hr⟩:=p96 (hairL b) (h:Int)
 have e0:decide (0≤r)=!decide ((h:Int)∈baldL b):=by
  rw [← decide_not,decide_eq_decide,hr,hair_mem hh]
 unfold g95_5 dayStep
 simp only
 rw [ixL_nat,hx,bsm,er,bsm,e0]
 have hE:=eachS_idx (f:=g95_15 left) (fun k=>decide (arr (rowOf b h) k≤arr left k)) (rowOf b h) 0 (!decide ((h:Int)∈baldL b)) (fun j x s hj hx=>by
  rw [Nat.sub_zero] at hx
  have hlt:j<b.Stock.length:=by rw [← hrow.1];exact (List.getElem?_eq_some_iff.1 hx).1
  have hxe:x=arr (rowOf b h) j:=by
   unfold arr;rw [hx];rfl
  subst hxe
  unfold g95_15
  rw [ixL_nat,arr_in (l:=left) (by rw [hl.len];omega),bsm]
  cases s<;>rfl)
 rw [show ((0:Nat):Int)=0 from rfl] at hE
 rw [hE,bsm,hrow.1]
 have hcan:(!decide ((h:Int)∈baldL b)&&(List.range' 0 b.Stock.length).all fun (k:Nat)=>decide (arr (rowOf b h) k≤arr left k))=canS b left h:=rfl
 rw [hcan]
 cases hc:canS b left h with
 | false=>
  have hw:whileC (g95_28 (rowOf b h) false) 1000 (0,left)=some left:=by rw [whileC];rfl
  rw [hw]
  rfl
 | true=>
  have hw:=hb95_28 (n:=b.Stock.length) (left:=left) (row:=rowOf b h) hrow.1 h3 hl.bd hrow.2 b.Stock.length 0 1000 (by omega) (by omega)
  rw [midA_zero hl.len,show ((0:Nat):Int)=0 from rfl] at hw
  rw [hw,bsm,bsm,cond_true,must_t (by simp),bsm,bsm]
  rfl
theorem hb95 {b:HarnessBook} (ok:HaOk b) {order:List Nat} (ho:∀ h,h∈order→h<b.Needs.length) {t:List Int} (ht:LeftOk b t) :
  g95 b (hairL b) (order.map fun (h:Nat)=>(h:Int)) t=some (dayS b order t):=by
 have h3:=ok.s3
 have key:∀ (os:List Nat) (i:Int) (s:Int×List Int),(∀ h,h∈os→h<b.Needs.length)→LeftOk b s.2→eachS (g95_5 b (hairL b)) (os.map fun (h:Nat)=>(h:Int)) i s=some (os.foldl (dayStep b) s):=by
  intro os
  induction os with
  | nil=>intro i s h1 h2;rfl
  | cons h os ih=>
   intro i s h1 h2
   obtain ⟨s1,s2⟩:=s
   rw [List.map_cons,eachS,hb95_5 ok (h1 h (by simp)) h2 i,bsm,ih (i+1) (dayStep b (s1,s2) h) (fun x hx=>h1 x (by simp [hx])) (dayStep_ok ok (h1 h (by simp)) h2)]
   rfl
 unfold g95
 rw [appL_ok (by rw [List.nil_append,ht.len];omega),bsm,List.nil_append,key order 0 (0,t) ho ht]
 rfl
end Go.Proofs.YtjooihelppcfkaaDoor
namespace Go.Proofs.YtjooihelppcfkaaDoor
open Go Go.Abs Go.Proofs.Tr
theorem factAnd:((List.range 8).all fun (x:Nat)=>(List.range 8).all fun (y:Nat)=>bAnd (x:Int) (y:Int)==((x &&& y:Nat):Int))=true:=by kernel_rfl
theorem factOr:((List.range 8).all fun (x:Nat)=>(List.range 8).all fun (y:Nat)=>bOr (x:Int) (y:Int)==((x ||| y:Nat):Int))=true:=by kernel_rfl
theorem factSh:((List.range 4).all fun (h:Nat)=>shl64 1 (h:Int)==((2 ^ h:Nat):Int))=true:=by kernel_rfl
theorem factAll:((List.range 4).all fun (n:Nat)=>g74 (wr (shl64 1 (n:Int) - 1)) (n:Int)==some ((List.range n).map fun (h:Nat)=>(h:Int)))=true:=by kernel_rfl
theorem factMask:((List.range 4).all fun (n:Nat)=>wr (shl64 1 (n:Int) - 1)==((2 ^ n - 1:Nat):Int))=true:=by kernel_rfl
theorem all1 {P:Nat→Bool} {N n:Nat} (h:((List.range N).all P)=true) (hn:n<N):P n=true:=by
 rw [List.all_eq_true] at h
 exact h n (List.mem_range.2 hn)
theorem fAnd {x y:Nat} (hx:x<8) (hy:y<8):bAnd (x:Int) (y:Int)=((x &&& y:Nat):Int):=by simpa using all1 (all1 factAnd hx) hy
theorem fOr {x y:Nat} (hx:x<8) (hy:y<8):bOr (x:Int) (y:Int)=((x ||| y:Nat):Int):=by simpa using all1 (all1 factOr hx) hy
theorem fSh {h:Nat} (hh:h<4):shl64 1 (h:Int)=((2 ^ h:Nat):Int):=by simpa using all1 factSh hh
theorem fAll {n:Nat} (h:n<4):g74 (wr (shl64 1 (n:Int) - 1)) (n:Int)=some ((List.range n).map fun (h:Nat)=>(h:Int)):=by simpa using all1 factAll h
theorem fMask {n:Nat} (h:n<4):wr (shl64 1 (n:Int) - 1)=((2 ^ n - 1:Nat):Int):=by simpa using all1 factMask h
theorem p8 {n:Nat} (h:n≤3):2 ^ n≤8:=pow_le' h
theorem dayStep_nat {b:HarnessBook} (ok:HaOk b) {h:Nat} (hh:h<b.Needs.length) {s:Int×List Int} {x:Nat} (hx:x<2 ^ b.Needs.length) (hs:s.1=(x:Int)):∃ y:Nat,y<2 ^ b.Needs.length∧(dayStep b s h).1=(y:Int):=by
 have h3:=ok.n3
 have h8:=p8 h3
 unfold dayStep
 cases canS b s.2 h with
 | false=>exact ⟨x,hx,hs⟩
 | true=>
  have h2:2 ^ h<2 ^ b.Needs.length:=Nat.pow_lt_pow_right (by decide) hh
  refine ⟨x ||| 2 ^ h,Nat.or_lt_two_pow hx h2,?_⟩
  simp only [cond_true]
  rw [hs,fSh (by omega),fOr (by omega) (by omega)]
theorem day_nat {b:HarnessBook} (ok:HaOk b):∀ (order:List Nat),(∀ h,h∈order→h<b.Needs.length)→∀ (s:Int×List Int) (x:Nat),x<2 ^ b.Needs.length→s.1=(x:Int)→∃ y:Nat,y<2 ^ b.Needs.length∧(order.foldl (dayStep b) s).1=(y:Int)
 | [],ho,s,x,hx,hs=>⟨x,hx,hs⟩
 | h::os,ho,s,x,hx,hs=>by
  obtain ⟨y,hy,e⟩:=dayStep_nat ok (ho h (by simp)) hx hs
  exact day_nat ok os (fun k hk=>ho k (by simp [hk])) _ y hy e
def dayN (b:HarnessBook) (order:List Nat) (t:List Int):Nat:=(dayS b order t).toNat
theorem dayN_ok {b:HarnessBook} (ok:HaOk b) {order:List Nat} (ho:∀ h,h∈order→h<b.Needs.length) (t:List Int):dayN b order t<2 ^ b.Needs.length∧dayS b order t=(dayN b order t:Int):=by
 obtain ⟨y,hy,e⟩:=day_nat ok order ho (0,t) 0 (Nat.two_pow_pos _) rfl
 have e':dayS b order t=(y:Int):=e
 unfold dayN
 rw [e']
 exact ⟨by simpa using hy,by simp⟩
def setsN (b:HarnessBook) (order:List Nat):List Nat:=(truL b.Stock).map (dayN b order)
def sureN (b:HarnessBook) (order:List Nat):Nat:=(setsN b order).foldl (· &&& ·) (2 ^ b.Needs.length - 1)
def perhN (b:HarnessBook) (order:List Nat):Nat:=(setsN b order).foldl (· ||| ·) 0
theorem sets_lt {b:HarnessBook} (ok:HaOk b) {order:List Nat} (ho:∀ h,h∈order→h<b.Needs.length) {s:Nat} (hs:s∈setsN b order):s<2 ^ b.Needs.length:=by
 obtain ⟨t,_,rfl⟩:=List.mem_map.1 hs
 exact (dayN_ok ok ho t).1
theorem sets_cons {b:HarnessBook} (ok:HaOk b) (order:List Nat):∃ s l,setsN b order=s::l:=by
 have h:=(truL_len b.Stock (fun s hs=>by have:=ok.st s hs;omega)).1
 unfold setsN
 match truL b.Stock,h with
 | t::ts,_=>exact ⟨_,_,rfl⟩
theorem and_lt:∀ (l:List Nat) (x N:Nat),x<2 ^ N→l.foldl (· &&& ·) x<2 ^ N
 | [],x,N,h=>h
 | y::l,x,N,h=>by rw [List.foldl_cons];exact and_lt l _ N (Nat.lt_of_le_of_lt Nat.and_le_left h)
theorem or_lt:∀ (l:List Nat) (x N:Nat),x<2 ^ N→(∀ y,y∈l→y<2 ^ N)→l.foldl (· ||| ·) x<2 ^ N
 | [],x,N,h,hl=>h
 | y::l,x,N,h,hl=>by rw [List.foldl_cons];exact or_lt l _ N (Nat.or_lt_two_pow h (hl y (by simp))) (fun z hz=>hl z (by simp [hz]))
theorem sure_lt (b:HarnessBook) (order:List Nat):sureN b order<2 ^ b.Needs.length:=and_lt _ _ _ (by have:=Nat.two_pow_pos b.Needs.length;omega)
theorem perh_lt {b:HarnessBook} (ok:HaOk b) {order:List Nat} (ho:∀ h,h∈order→h<b.Needs.length):perhN b order<2 ^ b.Needs.length:=or_lt _ _ _ (Nat.two_pow_pos _) (fun y hy=>sets_lt ok ho hy)
abbrev castL (l:List Nat):List Int:=l.map fun (h:Nat)=>(h:Int)
theorem hb60 {b:HarnessBook} (ok:HaOk b) {m:List (Harness_want×Int)} (hm:NdOk b m) {order:List Nat} (ho:∀ h,h∈order→h<b.Needs.length):g60 b (baldL b) m (castL order)=some ((sureN b order:Int),(perhN b order:Int)):=by
 have h3:=ok.n3
 have h8:=p8 h3
 have hc:∀ t,t∈truL b.Stock→∀ v:Int×Int,(fun a s=>rndC (g60_r6 b (baldL b) m (castL order)) a s) (arr t) (Ctl.next v:Ctl (Int×Int) Unit)=some (Ctl.next (bAnd v.1 (dayS b order t),bOr v.2 (dayS b order t)),true):=fun t ht v=>by
  obtain ⟨v1,v2⟩:=v
  simp only [rndC,g60_r6]
  rw [hb73 ok hm ho (tru_left ok ht)]
  rfl
 have h:=hb99 (fun a s=>rndC (g60_r6 b (baldL b) m (castL order)) a s) (Ctl.next:Int×Int→Ctl (Int×Int) Unit) (fun v t=>(bAnd v.1 (dayS b order t),bOr v.2 (dayS b order t))) ok (baldL b) m (wr (shl64 1 (b.Needs.length:Int) - 1),0) hc
 have key:∀ (ts:List (List Int)) (x y:Nat),x<2 ^ b.Needs.length→y<2 ^ b.Needs.length→ts.foldl (fun (v:Int×Int) t=>(bAnd v.1 (dayS b order t),bOr v.2 (dayS b order t))) ((x:Int),(y:Int))=((((ts.map (dayN b order)).foldl (· &&& ·) x:Nat):Int),(((ts.map (dayN b order)).foldl (· ||| ·) y:Nat):Int)):=by
  intro ts
  induction ts with
  | nil=>intro x y hx hy;rfl
  | cons t ts ih=>
   intro x y hx hy
   obtain ⟨d1,d2⟩:=dayN_ok ok ho t
   rw [List.foldl_cons,d2,fAnd (by omega) (by omega),fOr (by omega) (by omega),ih _ _ (Nat.lt_of_le_of_lt Nat.and_le_left hx) (Nat.or_lt_two_pow hy d1)]
   rfl
 unfold g60 g72
 rw [must_t (by simp),bsm,bsm]
 simp only
 rw [h,bsm,fMask (by omega)]
 have:=key (truL b.Stock) (2 ^ b.Needs.length - 1) 0 (by have:=Nat.two_pow_pos b.Needs.length;omega) (Nat.two_pow_pos _)
 rw [show ((0:Nat):Int)=0 from rfl] at this
 rw [this]
 rfl
theorem hb61 {b:HarnessBook} (ok:HaOk b) (bald:List Int) (m:List (Harness_want×Int)):g61 b bald m=some (castL (List.range b.Needs.length)):=by
 have h3:=ok.n3
 obtain ⟨l,e,hl⟩:=eachS_inv (f:=g61_3) (fun n l=>l=castL (List.range n)) b.Needs 0 [] rfl (fun j x l hj hx hl=>by
  rw [Nat.sub_zero] at hx
  have hlt:j<b.Needs.length:=(List.getElem?_eq_some_iff.1 hx).1
  refine ⟨l++[(j:Int)],?_,by rw [hl,List.range_succ,castL,castL,List.map_append];rfl⟩
  unfold g61_3
  rw [appL_ok (by rw [List.length_append,hl];simp;omega)]
  rfl)
 unfold g61
 rw [must_t (by simp;omega),bsm]
 rw [show ((0:Nat):Int)=0 from rfl] at e
 rw [e,bsm,hl,Nat.zero_add]
theorem hb66 {b:HarnessBook} (ok:HaOk b):g66 b=some (castL (List.range b.Needs.length)):=by
 have h3:=ok.n3
 unfold g66
 rw [must_t (by simp),bsm,fAll (by omega),bsm]
theorem eachS_forS {α S:Type} {f:Int→α→S→Option S} {g:Int→S→Option S} (h:∀ i x s,f i x s=g i s):∀ (xs:List α) (i:Int) (s:S),eachS f xs i s=forS g xs.length i s
 | [],i,s=>rfl
 | x::xs,i,s=>by
  rw [eachS,List.length_cons,forS,h]
  congr 1
  funext s'
  exact eachS_forS h xs (i+1) s'
theorem hb62_3 (set_:Int) (v:Int) (p:List Int) (l:List Int):g62_3 set_ v p l=g74_2 set_ v l:=by
 unfold g62_3 g74_2 g104
 cases must (decide (0≤v))<;>rfl
theorem hb62 {b:HarnessBook} (ok:HaOk b) (bald:List Int) (m:List (Harness_want×Int)) {s:Nat} (hs:s<2 ^ b.Needs.length):g62 b bald m (s:Int)=some (LT b.Needs.length s):=by
 have h3:=ok.n3
 have h:=f48 h3 hs
 unfold g74 at h
 rw [must_t (by simp;omega),bsm,Int.sub_zero,Int.toNat_natCast] at h
 have h':forS (g74_2 (s:Int)) b.Needs.length 0 ([]:List Int)=some (LT b.Needs.length s):=by
  cases hf:forS (g74_2 (s:Int)) b.Needs.length 0 ([]:List Int) with
  | none=>rw [hf] at h;cases h
  | some l=>rw [hf] at h;exact h
 unfold g62
 rw [must_t (by simp;omega),bsm,eachS_forS (hb62_3 (s:Int)),h',bsm,slcL_all,bsm]
theorem range_lt {n h:Nat} (hh:h∈List.range n):h<n:=List.mem_range.1 hh
theorem hb64 {b:HarnessBook} (ok:HaOk b) {order:List Nat} (ho:∀ h,h∈order→h<b.Needs.length):g64 b (hairL b) (castL order)=some (castL (setsN b order)):=by
 have hlen:=(truL_len b.Stock (fun s hs=>by have:=ok.st s hs;omega)).2
 have h5:5 ^ b.Stock.length≤125:=Nat.le_trans (Nat.pow_le_pow_right (by omega) ok.s3) (by decide)
 have key:∀ (ts:List (List Int)) (i:Int) (acc:List Int),(∀ t,t∈ts→LeftOk b t)→acc.length+ts.length≤1000→eachS (g64_4 b (hairL b) (castL order)) ts i acc=some (acc++castL (ts.map (dayN b order))):=by
  intro ts
  induction ts with
  | nil=>intro i acc h1 h2;simp [eachS,castL]
  | cons t ts ih=>
   intro i acc h1 h2
   rw [List.length_cons] at h2
   rw [eachS,g64_4,hb95 ok ho (h1 t (by simp)),bsm,appL_ok (by rw [List.length_append,List.length_singleton];omega),bsm,bsm,ih (i+1) _ (fun x hx=>h1 x (by simp [hx])) (by rw [List.length_append,List.length_singleton];omega),(dayN_ok ok ho t).2]
   simp [castL]
 unfold g64
 rw [hb94_all ok,bsm,key (truL b.Stock) 0 [] (fun t ht=>tru_left ok ht) (by simp;omega),bsm,List.nil_append]
 rfl
theorem and_self_fold:∀ (l:List Nat) (x N:Nat),x<2 ^ N→(x::l).foldl (· &&& ·) (2 ^ N - 1)=(x::l).foldl (· &&& ·) x:=by
 intro l x N hx
 rw [List.foldl_cons,List.foldl_cons,Nat.and_self,Nat.and_comm,Nat.and_two_pow_sub_one_of_lt_two_pow hx]
theorem hb63 {b:HarnessBook} (ok:HaOk b) {order:List Nat} (ho:∀ h,h∈order→h<b.Needs.length):g63 b (castL (setsN b order))=some (LT b.Needs.length (sureN b order)):=by
 have h3:=ok.n3
 have h8:=p8 h3
 have key:∀ (l:List Nat) (i:Int) (x:Nat),(∀ y,y∈l→y<2 ^ b.Needs.length)→x<2 ^ b.Needs.length→eachS g63_4 (castL l) i (x:Int)=some ((l.foldl (· &&& ·) x:Nat):Int):=by
  intro l
  induction l with
  | nil=>intro i x h1 h2;rfl
  | cons y l ih=>
   intro i x h1 h2
   have hy:=h1 y (by simp)
   rw [castL,List.map_cons,eachS,g63_4,fAnd (by omega) (by omega),bsm]
   exact ih (i+1) (x &&& y) (fun z hz=>h1 z (by simp [hz])) (Nat.lt_of_le_of_lt Nat.and_le_left h2)
 obtain ⟨s,l,e⟩:=sets_cons ok order
 have hs:=sets_lt ok ho (show s∈setsN b order by rw [e];simp)
 have hk:=key (s::l) 0 s (fun y hy=>sets_lt ok ho (by rw [e];exact hy)) hs
 have h0:sureN b order=(s::l).foldl (· &&& ·) s:=by
  unfold sureN
  rw [e,and_self_fold l s _ hs]
 have hl:=sure_lt b order
 rw [h0] at hl
 unfold g63
 rw [e,show ixL (castL (s::l)) 0=some (s:Int) from rfl,bsm,hk,bsm,f48 h3 hl,bsm,h0]
theorem hb71 {b:HarnessBook} (ok:HaOk b) {order:List Nat} (ho:∀ h,h∈order→h<b.Needs.length):g71 b (castL (setsN b order))=some (LT b.Needs.length (perhN b order)):=by
 have h3:=ok.n3
 have h8:=p8 h3
 have key:∀ (l:List Nat) (i:Int) (x:Nat),(∀ y,y∈l→y<2 ^ b.Needs.length)→x<2 ^ b.Needs.length→eachS g71_2 (castL l) i (x:Int)=some ((l.foldl (· ||| ·) x:Nat):Int):=by
  intro l
  induction l with
  | nil=>intro i x h1 h2;rfl
  | cons y l ih=>
   intro i x h1 h2
   have hy:=h1 y (by simp)
   rw [castL,List.map_cons,eachS,g71_2,fOr (by omega) (by omega),bsm]
   exact ih (i+1) (x ||| y) (fun z hz=>h1 z (by simp [hz])) (Nat.or_lt_two_pow h2 hy)
 have hk:=key (setsN b order) 0 0 (fun y hy=>sets_lt ok ho hy) (Nat.two_pow_pos _)
 rw [show ((0:Nat):Int)=0 from rfl] at hk
 unfold g71
 rw [hk,bsm]
 show (g74 ((perhN b order:Nat):Int) _).bind _=_
 rw [f48 h3 (perh_lt ok ho),bsm]
def lenN (b:HarnessBook) (s:Nat):Int:=((LT b.Needs.length s).length:Int)
theorem factLen:((List.range 4).all fun (n:Nat)=>(List.range (2 ^ n)).all fun (s:Nat)=>decide ((LT n s).length≤n))=true:=by kernel_rfl
theorem len_bd {b:HarnessBook} (ok:HaOk b) {s:Nat} (hs:s<2 ^ b.Needs.length):0≤lenN b s∧lenN b s≤(b.Needs.length:Int):=by
 have h3:=ok.n3
 have:=of_decide_eq_true (all1 (all1 factLen (show b.Needs.length<4 by omega)) hs)
 unfold lenN
 omega
end Go.Proofs.YtjooihelppcfkaaDoor
namespace Go.Proofs.YtjooihelppcfkaaDoor
open Go Go.Abs Go.Proofs.Tr
theorem and_bit:∀ (l:List Nat) (x i:Nat),(l.foldl (· &&& ·) x).testBit i=(x.testBit i&&l.all (·.testBit i))
 | [],x,i=>by simp
 | y::l,x,i=>by rw [List.foldl_cons,and_bit l,Nat.testBit_and,List.all_cons,Bool.and_assoc]
theorem or_bit:∀ (l:List Nat) (x i:Nat),(l.foldl (· ||| ·) x).testBit i=(x.testBit i||l.any (·.testBit i))
 | [],x,i=>by simp
 | y::l,x,i=>by rw [List.foldl_cons,or_bit l,Nat.testBit_or,List.any_cons,Bool.or_assoc]
theorem sure_bit {b:HarnessBook} {order:List Nat} {i:Nat} (hi:i<b.Needs.length):(sureN b order).testBit i=true↔∀ t,t∈truL b.Stock→(dayN b order t).testBit i=true:=by
 unfold sureN setsN
 rw [and_bit,Nat.testBit_two_pow_sub_one,decide_eq_true hi,Bool.true_and,List.all_eq_true]
 constructor
 ·intro h t ht
  exact h _ (List.mem_map.2 ⟨t,ht,rfl⟩)
 ·intro h s hs
  obtain ⟨t,ht,rfl⟩:=List.mem_map.1 hs
  exact h t ht
theorem perh_bit {b:HarnessBook} {order:List Nat} {i:Nat}:(perhN b order).testBit i=true↔∃ t,t∈truL b.Stock∧(dayN b order t).testBit i=true:=by
 unfold perhN setsN
 rw [or_bit,Nat.zero_testBit,Bool.false_or,List.any_eq_true]
 constructor
 ·rintro ⟨s,hs,h⟩
  obtain ⟨t,ht,rfl⟩:=List.mem_map.1 hs
  exact ⟨t,ht,h⟩
 ·rintro ⟨t,ht,h⟩
  exact ⟨_,List.mem_map.2 ⟨t,ht,rfl⟩,h⟩
theorem truL_ne {b:HarnessBook} (ok:HaOk b):∃ t,t∈truL b.Stock:=by
 have h:=(truL_len b.Stock (fun s hs=>by have:=ok.st s hs;omega)).1
 match truL b.Stock,h with
 | t::ts,_=>exact ⟨t,by simp⟩
theorem hbFind (l:List Int) (i:Int):∃ j,g41 l i=some j∧decide (0≤j)=decide (i∈l)∧decide (j<0)=!decide (i∈l):=by
 obtain ⟨j,e,h⟩:=p96 l i
 refine ⟨j,e,decide_eq_decide.2 h,?_⟩
 rw [← decide_not,decide_eq_decide,← h];omega
def cntB (b:HarnessBook) (k:Nat) (c:Int):HarnessBook:=⟨b.Hair,b.Needs,setL b.Stock (k:Int) ⟨c,c⟩,b.Pack,b.Bad⟩
theorem cnt_get {b:HarnessBook} {k:Nat} (hk:k<b.Stock.length) (c:Int) (j:Nat):(cntB b k c).Stock[j]?=if j=k then some ⟨c,c⟩ else b.Stock[j]?:=by
 show (setL b.Stock (k:Int) ⟨c,c⟩)[j]?=_
 unfold setL
 rw [Int.toNat_natCast]
 by_cases h:k=j
 ·subst h;rw [List.getElem?_set_self hk,if_pos rfl]
 ·rw [List.getElem?_set_ne h,if_neg (fun e=>h e.symm)]
theorem cnt_len (b:HarnessBook) (k:Nat) (c:Int):(cntB b k c).Stock.length=b.Stock.length:=by
 show (setL b.Stock (k:Int) ⟨c,c⟩).length=_
 unfold setL
 rw [List.length_set]
theorem cnt_ok {b:HarnessBook} (ok:HaOk b) {k:Nat} (hk:k<b.Stock.length) {c:Int} (h1:lowOf b k≤c) (h2:c≤highOf b k):HaOk (cntB b k c):=by
 have sb:=st_bd ok k
 refine ⟨ok.ok,by rw [cnt_len];exact ok.s1,by rw [cnt_len];exact ok.s3,ok.nl,ok.n3,ok.pack,ok.bad,fun s hs=>?_,fun l hl=>?_⟩
 ·obtain ⟨j,hj⟩:=List.getElem?_of_mem hs
  rw [cnt_get hk] at hj
  split at hj
  ·cases hj;simp only;omega
  ·exact ok.st s (List.mem_of_getElem? hj)
 ·rw [cnt_len];exact ok.nd l hl
end Go.Proofs.YtjooihelppcfkaaDoor
namespace Go.Proofs.YtjooihelppcfkaaDoor
open Go Go.Abs Go.Proofs.Tr
theorem factN:((List.range 4).all fun (n:Nat)=>(List.range (2 ^ n)).all fun (p:Nat)=>(List.range (2 ^ n)).all fun (s:Nat)=>!(decide ((p &&& s)=s))||(decide ((bAndN (p:Int) (s:Int)).toNat<2 ^ n)&&(bAndN (p:Int) (s:Int)==((bAndN (p:Int) (s:Int)).toNat:Int))&&decide ((LT n (bAndN (p:Int) (s:Int)).toNat).length+(LT n s).length=(LT n p).length)))=true:=by kernel_rfl
def allH (b:HarnessBook):List Nat:=List.range b.Needs.length
def openN (b:HarnessBook):Int:=lenN b (perhN b (allH b)) - lenN b (sureN b (allH b))
theorem sub_sets {b:HarnessBook} (ok:HaOk b):perhN b (allH b) &&& sureN b (allH b)=sureN b (allH b):=by
 refine Nat.eq_of_testBit_eq fun i=>?_
 rw [Nat.testBit_and]
 by_cases hi:i<b.Needs.length
 ·cases hs:(sureN b (allH b)).testBit i with
  | false=>simp
  | true=>
   obtain ⟨t,ht⟩:=truL_ne ok
   have:(perhN b (allH b)).testBit i=true:=perh_bit.2 ⟨t,ht,(sure_bit hi).1 hs t ht⟩
   rw [this];rfl
 ·have h1:=sure_lt b (allH b)
  have h2:2 ^ b.Needs.length≤2 ^ i:=Nat.pow_le_pow_right (by decide) (by omega)
  rw [Nat.testBit_lt_two_pow (show sureN b (allH b)<2 ^ i by omega),Bool.and_false]
theorem hb84 {b:HarnessBook} (ok:HaOk b) {m:List (Harness_want×Int)} (hm:NdOk b m):g84 b (baldL b) m=some (openN b):=by
 have h3:=ok.n3
 have hp:=perh_lt ok (order:=allH b) (fun h=>range_lt)
 have hs:=sure_lt b (allH b)
 have hf:=all1 (all1 (all1 factN (show b.Needs.length<4 by omega)) hp) hs
 rw [decide_eq_true (sub_sets ok)] at hf
 simp only [Bool.not_true,Bool.false_or,Bool.and_eq_true,decide_eq_true_eq,beq_iff_eq] at hf
 obtain ⟨⟨f1,f2⟩,f3⟩:=hf
 unfold g84
 rw [hb61 ok,bsm,show castL (List.range b.Needs.length)=castL (allH b) from rfl,hb60 ok hm (order:=allH b) (fun h=>range_lt),bsm]
 simp only
 rw [f2,hb62 ok _ _ f1,bsm]
 unfold openN lenN
 congr 1
 omega
theorem open_bd {b:HarnessBook} (ok:HaOk b):0≤openN b∧openN b≤(b.Needs.length:Int):=by
 have h3:=ok.n3
 have hp:=perh_lt ok (order:=allH b) (fun h=>range_lt)
 have hs:=sure_lt b (allH b)
 have hf:=all1 (all1 (all1 factN (show b.Needs.length<4 by omega)) hp) hs
 rw [decide_eq_true (sub_sets ok)] at hf
 simp only [Bool.not_true,Bool.false_or,Bool.and_eq_true,decide_eq_true_eq,beq_iff_eq] at hf
 have l1:=len_bd ok hp
 have l2:=len_bd ok hs
 have f3:=hf.2
 unfold openN lenN at *
 omega
def worstN (b:HarnessBook) (k:Nat):Int:=(List.range' 0 (highOf b k - lowOf b k+1).toNat).foldl (fun w (j:Nat)=>max w (openN (cntB b k (lowOf b k+(j:Int))))) 0
theorem forS_max {f:Int→Int→Option Int} {F:Nat→Int} {a:Int}:∀ (n i:Nat) (w:Int),(∀ (j:Nat) w,i≤j→j<i+n→f (a+(j:Int)) w=some (max w (F j)))→forS f n (a+(i:Int)) w=some ((List.range' i n).foldl (fun w j=>max w (F j)) w)
 | 0,i,w,h=>rfl
 | n+1,i,w,h=>by
  rw [forS,h i w (Nat.le_refl _) (by omega),bsm,show a+(i:Int)+1=a+((i+1:Nat):Int) by omega,forS_max n (i+1) _ (fun j w h1 h2=>h j w (by omega) (by omega)),List.range'_succ,List.foldl_cons]
theorem eachS_foldI {α S:Type} {f:Int→α→S→Option S} {g:S→Nat→S}:∀ (xs:List α) (i:Nat) (s:S),(∀ (j:Nat) x s,i≤j→xs[j - i]?=some x→f (j:Int) x s=some (g s j))→eachS f xs (i:Int) s=some ((List.range' i xs.length).foldl g s)
 | [],i,s,h=>rfl
 | x::xs,i,s,h=>by
  rw [eachS,h i x s (Nat.le_refl _) (by simp),bsm,List.length_cons,List.range'_succ,List.foldl_cons,show (i:Int)+1=((i+1:Nat):Int) by omega]
  exact eachS_foldI xs (i+1) (g s i) (fun j y s hj hy=>h j y s (by omega) (by
   have:j - i=(j - (i+1))+1:=by omega
   rw [this,List.getElem?_cons_succ];exact hy))
def stepF (b:HarnessBook) (s:Int×Int) (k:Nat):Int×Int:=bif decide (s.1<0)||decide (worstN b k<s.2) then ((k:Int),worstN b k) else s
def bestF (b:HarnessBook):Int×Int:=(List.range' 0 b.Stock.length).foldl (stepF b) (-1,0)
def countR (b:HarnessBook):Int×Int:=bif decide (openN b=0) then (0,4) else ((bestF b).1,0)
theorem cnt_nd {b:HarnessBook} {m:List (Harness_want×Int)} (hm:NdOk b m) (k:Nat) (c:Int):NdOk (cntB b k c) m:=fun h j h1 h2=>by
 rw [cnt_len] at h2
 exact hm h j h1 h2
theorem hb31 {b:HarnessBook} (ok:HaOk b):g31 b=some (countR b):=by
 obtain ⟨m,e,hm⟩:=hb59 ok
 have h1:=ok.s1
 have h3:=ok.s3
 unfold g31
 rw [e,bsm]
 simp only [ne_eq,not_true_eq_false,decide_false,cond_false]
 rw [hb84 ok hm,bsm]
 unfold countR
 cases ho:decide (openN b=0) with
 | true=>rfl
 | false=>
  simp only [cond_false]
  have hE:=eachS_foldI (f:=g31_15 b b (baldL b) m) (g:=stepF b) b.Stock 0 (-1,0) (fun k p s hj hx=>by
   rw [Nat.sub_zero] at hx
   have hk:k<b.Stock.length:=(List.getElem?_eq_some_iff.1 hx).1
   have hst:=ok.st p (List.mem_of_getElem? hx)
   have el:lowOf b k=p.Low:=by unfold lowOf;rw [hx]
   have eh:highOf b k=p.High:=by unfold highOf;rw [hx]
   have hF:=forS_max (f:=g31_21 b b (baldL b) m (k:Int) p) (F:=fun j=>openN (cntB b k (lowOf b k+(j:Int)))) (a:=0) (p.High - p.Low+1).toNat 0 0 (fun j w _ hj=>by
    rw [Int.zero_add]
    unfold g31_21 g85
    rw [must_t (by simp;omega),bsm,appL_ok (by rw [List.nil_append];omega),bsm,bsm,List.nil_append,ixL_nat,hx,bsm,wr_in (n:=p.Low+(j:Int)) (by omega) (by omega)]
    have h:=hb84 (cnt_ok ok hk (c:=lowOf b k+(j:Int)) (by omega) (by omega)) (cnt_nd hm k (lowOf b k+(j:Int)))
    rw [el] at h ⊢
    have h':g84 ⟨b.Hair,b.Needs,setL b.Stock (k:Int) ⟨p.Low+(j:Int),p.Low+(j:Int)⟩,b.Pack,b.Bad⟩ (baldL b) m=some (openN (cntB b k (p.Low+(j:Int)))):=h
    rw [h',bsm])
   rw [show (0:Int)+((0:Nat):Int)=0 from rfl] at hF
   obtain ⟨s1,s2⟩:=s
   unfold g31_15
   simp only
   rw [wr_in (n:=p.High - p.Low) (by omega) (by omega),wr_in (n:=p.High - p.Low+1) (by omega) (by omega),Int.sub_zero,hF,bsm]
   unfold stepF worstN
   rw [eh,el]
   simp only
   cases decide (s1<0)||decide ((List.range' 0 (p.High - p.Low+1).toNat).foldl (fun w (j:Nat)=>max w (openN (cntB b k (p.Low+(j:Int))))) 0<s2)<;>rfl)
  rw [show ((0:Nat):Int)=0 from rfl] at hE
  rw [hE,bsm]
  rfl
theorem hb31_no {b:HarnessBook} (h:okHa b=false):g31 b=some (0,100):=by
 unfold g31
 rw [hb59_no h];rfl
end Go.Proofs.YtjooihelppcfkaaDoor
namespace Go.Proofs.YtjooihelppcfkaaDoor
open Go Go.Abs Go.Proofs.Tr
theorem hb87 {b:HarnessBook} (ok:HaOk b) {k:Nat} (hk:k<b.Stock.length) (c:Int):g87 b (k:Int) c=some (cntB b k c):=by
 have h3:=ok.s3
 unfold g87 g56
 rw [appL_ok (by rw [List.nil_append];omega),bsm,bsm,List.nil_append,ixL_nat,List.getElem?_eq_getElem hk,bsm]
 rfl
theorem hb86 {b:HarnessBook} (ok:HaOk b):g86 b (hairL b)=some (openN b):=by
 have h3:=ok.n3
 have ob:=open_bd ok
 unfold g86
 rw [hb66 ok,bsm,show castL (List.range b.Needs.length)=castL (allH b) from rfl,hb64 ok (order:=allH b) (fun h=>range_lt),bsm,hb71 ok (order:=allH b) (fun h=>range_lt),bsm,hb63 ok (order:=allH b) (fun h=>range_lt),bsm]
 have e:((LT b.Needs.length (perhN b (allH b))).length:Int) - ((LT b.Needs.length (sureN b (allH b))).length:Int)=openN b:=rfl
 rw [e,wr_in (by omega) (by omega)]
theorem hb32 {b:HarnessBook} (ok:HaOk b):g32 b=some (countR b):=by
 have h1:=ok.s1
 have h3:=ok.s3
 unfold g32
 rw [hb19,haOk_to ok,bsm]
 simp only [cond_true,ne_eq,not_true_eq_false,decide_false,cond_false]
 rw [hb65 ok,bsm,hb86 ok,bsm]
 unfold countR
 cases ho:decide (openN b=0) with
 | true=>rfl
 | false=>
  simp only [cond_false]
  have hE:=eachS_foldI (f:=g32_12 b (hairL b)) (g:=stepF b) b.Stock 0 (-1,0) (fun k p s hj hx=>by
   rw [Nat.sub_zero] at hx
   have hk:k<b.Stock.length:=(List.getElem?_eq_some_iff.1 hx).1
   have hst:=ok.st p (List.mem_of_getElem? hx)
   have el:lowOf b k=p.Low:=by unfold lowOf;rw [hx]
   have eh:highOf b k=p.High:=by unfold highOf;rw [hx]
   have hF:=forS_max (f:=g32_19 b (hairL b) (k:Int)) (F:=fun j=>openN (cntB b k (lowOf b k+(j:Int)))) (a:=p.Low) (p.High - p.Low+1).toNat 0 0 (fun j w _ hj=>by
    have h:=hb86 (cnt_ok ok hk (c:=lowOf b k+(j:Int)) (by omega) (by omega))
    have h':g86 (cntB b k (lowOf b k+(j:Int))) (hairL b)=some (openN (cntB b k (lowOf b k+(j:Int)))):=h
    unfold g32_19
    rw [el] at h' ⊢
    rw [hb87 ok hk,bsm,h',bsm])
   rw [show p.Low+((0:Nat):Int)=p.Low by omega] at hF
   obtain ⟨s1,s2⟩:=s
   unfold g32_12
   simp only
   rw [must_t (by simp;omega),bsm,must_t (by simp;omega),bsm,show p.High+1 - p.Low=p.High - p.Low+1 by omega,hF,bsm]
   unfold stepF worstN
   rw [eh,el]
   simp only
   cases decide (s1<0)||decide ((List.range' 0 (p.High - p.Low+1).toNat).foldl (fun w (j:Nat)=>max w (openN (cntB b k (p.Low+(j:Int))))) 0<s2)<;>rfl)
  rw [show ((0:Nat):Int)=0 from rfl] at hE
  rw [hE,bsm]
  rfl
def quL (n:Nat):Nat→List Nat→List (List Nat)
 | 0,pre=>[pre]
 | d+1,pre=>(List.range' 0 n).flatMap fun (h:Nat)=>bif decide (h∈pre) then [] else quL n d (pre++[h])
theorem quL_len (n:Nat):∀ (d:Nat) (pre:List Nat),(quL n d pre).length≤n ^ d
 | 0,pre=>Nat.le_refl _
 | d+1,pre=>by
  have key:∀ (l:List Nat),(l.flatMap fun (h:Nat)=>bif decide (h∈pre) then [] else quL n d (pre++[h])).length≤l.length*n ^ d:=by
   intro l
   induction l with
   | nil=>simp
   | cons h l ih=>
    rw [List.flatMap_cons,List.length_append,List.length_cons,Nat.add_mul,Nat.one_mul]
    have h1:=quL_len n d (pre++[h])
    cases decide (h∈pre) with
    | true=>simp only [cond_true,List.length_nil];omega
    | false=>simp only [cond_false];omega
  have:=key (List.range' 0 n)
  rw [List.length_range'] at this
  rw [quL,Nat.pow_succ,Nat.mul_comm (n ^ d)]
  exact this
theorem quL_mem {n:Nat}:∀ (d:Nat) (pre q:List Nat),(∀ h,h∈pre→h<n)→q∈quL n d pre→(∀ h,h∈q→h<n)∧q.length=pre.length+d
 | 0,pre,q,hp,hq=>by
  simp only [quL,List.mem_singleton] at hq
  subst hq
  exact ⟨hp,by omega⟩
 | d+1,pre,q,hp,hq=>by
  rw [quL] at hq
  obtain ⟨h,hh,hq⟩:=List.mem_flatMap.1 hq
  rw [List.mem_range'_1] at hh
  cases hc:decide (h∈pre) with
  | true=>rw [hc] at hq;cases hq
  | false=>
   rw [hc] at hq
   obtain ⟨a,c⟩:=quL_mem d (pre++[h]) q (fun k hk=>by
    rcases List.mem_append.1 hk with hk | hk
    ·exact hp k hk
    ·rw [List.mem_singleton] at hk;omega) hq
   exact ⟨a,by rw [c,List.length_append,List.length_singleton];omega⟩
theorem castL_mem {l:List Nat} {h:Nat}:(h:Int)∈castL l↔h∈l:=by
 unfold castL
 rw [List.mem_map]
 constructor
 ·rintro ⟨k,hk,e⟩
  have:k=h:=by omega
  subst this;exact hk
 ·intro hh;exact ⟨h,hh,rfl⟩
theorem castL_len (l:List Nat):(castL l).length=l.length:=List.length_map ..
theorem castL_snoc (l:List Nat) (h:Nat):castL l++[(h:Int)]=castL (l++[h]):=by unfold castL;rw [List.map_append];rfl
theorem hb90 {b:HarnessBook} (ok:HaOk b):∀ (d:Nat) (pre:List Nat) (f:Nat),pre.length+d=b.Needs.length→d+1≤f→g90 f b (castL pre)=some ((quL b.Needs.length d pre).map castL)
 | d,pre,0,hl,hf=>by omega
 | 0,pre,f+1,hl,hf=>by
  rw [g90]
  rw [castL_len,decide_eq_true (by omega)]
  rfl
 | d+1,pre,f+1,hl,hf=>by
  have h3:=ok.n3
  have h27:b.Needs.length ^ d≤27:=Nat.le_trans (Nat.pow_le_pow_left h3 d) (Nat.le_trans (Nat.pow_le_pow_right (by decide) (show d≤3 by omega)) (by decide))
  have key:∀ (ls:List (List Int)) (i:Nat) (acc:List (List Int)),acc.length+ls.length*27≤1000→eachS (g90_5 (g90 f) b (castL pre)) ls (i:Int) acc=some (acc++(List.range' i ls.length).flatMap fun (h:Nat)=>(bif decide (h∈pre) then [] else quL b.Needs.length d (pre++[h])).map castL):=by
   intro ls
   induction ls with
   | nil=>intro i acc ha;simp [eachS]
   | cons l ls ih=>
    intro i acc ha
    rw [List.length_cons,Nat.add_mul,Nat.one_mul] at ha
    obtain ⟨j,ej,a1,a2⟩:=hbFind (castL pre) (i:Int)
    have hq:=quL_len b.Needs.length d (pre++[i])
    have hs:g90_5 (g90 f) b (castL pre) (i:Int) l acc=some (acc++(bif decide (i∈pre) then [] else quL b.Needs.length d (pre++[i])).map castL):=by
     unfold g90_5
     rw [ej,bsm,a2]
     by_cases hc:i∈pre
     ·rw [decide_eq_true (castL_mem.2 hc),decide_eq_true hc]
      simp
     ·rw [decide_eq_false (fun h=>hc (castL_mem.1 h)),decide_eq_false hc]
      simp only [Bool.not_false,cond_true,cond_false]
      rw [p109 _ _ (by rw [castL_len];omega),bsm,castL_snoc,hb90 ok d (pre++[i]) f (by simp;omega) (by omega),bsm,appL_ok (by rw [List.length_append,List.length_map];omega),bsm]
    rw [eachS,hs,bsm,show (i:Int)+1=((i+1:Nat):Int) by omega,ih (i+1) _ (by
     rw [List.length_append,List.length_map]
     cases decide (i∈pre) with
     | true=>simp only [cond_true,List.length_nil];omega
     | false=>simp only [cond_false];omega),List.length_cons,List.range'_succ,List.flatMap_cons,List.append_assoc]
  have hk:=key b.Needs 0 [] (by simp;omega)
  rw [show ((0:Nat):Int)=0 from rfl] at hk
  rw [g90]
  rw [castL_len,decide_eq_false (by omega),cond_false,hk,bsm,List.nil_append,quL,List.map_flatMap]
def stepQ (b:HarnessBook) (s:Int×List Int) (q:List Nat):Int×List Int:=bif decide (s.1<lenN b (sureN b q)) then (lenN b (sureN b q),castL q) else s
theorem hb88 {b:HarnessBook} (ok:HaOk b) {m:List (Harness_want×Int)} (hm:NdOk b m):∀ (d:Nat) (pre:List Nat) (f:Nat) (s:Int×List Int),pre.length+d=b.Needs.length→d+1≤f→(∀ h,h∈pre→h<b.Needs.length)→g88 f (castL pre) b b (baldL b) m s.1 s.2=some ((quL b.Needs.length d pre).foldl (stepQ b) s)
 | d,pre,0,s,hl,hf,hp=>by omega
 | 0,pre,f+1,s,hl,hf,hp=>by
  obtain ⟨s1,s2⟩:=s
  rw [g88]
  rw [castL_len,decide_eq_true (by omega),cond_true,hb60 ok hm hp,bsm]
  simp only
  rw [hb62 ok _ _ (sure_lt _ _),bsm]
  show (bif decide (s1<lenN b (sureN b pre)) then some (lenN b (sureN b pre),castL pre) else some (s1,s2))=some (stepQ b (s1,s2) pre)
  unfold stepQ
  simp only
  cases decide (s1<lenN b (sureN b pre))<;>rfl
 | d+1,pre,f+1,s,hl,hf,hp=>by
  have h3:=ok.n3
  have key:∀ (ls:List (List Int)) (i:Nat) (s:Int×List Int),i+ls.length=b.Needs.length→eachS (g88_12 (g88 f) (castL pre) b b (baldL b) m) ls (i:Int) s=some (((List.range' i ls.length).flatMap fun (h:Nat)=>bif decide (h∈pre) then [] else quL b.Needs.length d (pre++[h])).foldl (stepQ b) s):=by
   intro ls
   induction ls with
   | nil=>intro i s hi;rfl
   | cons l ls ih=>
    intro i s hi
    rw [List.length_cons] at hi
    have hs:g88_12 (g88 f) (castL pre) b b (baldL b) m (i:Int) l s=some ((bif decide (i∈pre) then [] else quL b.Needs.length d (pre++[i])).foldl (stepQ b) s):=by
     obtain ⟨s1,s2⟩:=s
     unfold g88_12
     simp only
     rw [hb89,bsm]
     by_cases hc:i∈pre
     ·rw [decide_eq_true (castL_mem.2 hc),decide_eq_true hc]
      rfl
     ·rw [decide_eq_false (fun h=>hc (castL_mem.1 h)),decide_eq_false hc]
      simp only [Bool.not_false,cond_true,cond_false]
      have hr:=hb88 ok hm d (pre++[i]) f (s1,s2) (by simp;omega) (by omega) (fun k hk=>by
       rcases List.mem_append.1 hk with hk | hk
       ·exact hp k hk
       ·rw [List.mem_singleton] at hk;omega)
      rw [slcL_all,bsm,appL_ok (by rw [List.length_append,castL_len,List.length_singleton];omega),bsm,castL_snoc]
      simp only at hr
      rw [hr,bsm]
    rw [eachS,hs,bsm,show (i:Int)+1=((i+1:Nat):Int) by omega,ih (i+1) _ (by omega),List.length_cons,List.range'_succ,List.flatMap_cons,List.foldl_append]
  have hk:=key b.Needs 0 s (by omega)
  rw [show ((0:Nat):Int)=0 from rfl] at hk
  rw [g88]
  rw [castL_len,decide_eq_false (by omega),cond_false,hk,bsm,quL]
def allQ (b:HarnessBook):List (List Nat):=quL b.Needs.length b.Needs.length []
def bestQ (b:HarnessBook):Int×List Int:=(allQ b).foldl (stepQ b) (-1,[])
theorem factQu:((List.range 4).all fun (n:Nat)=>decide (0<(quL n n []).length))=true:=by kernel_rfl
theorem allQ_cons {b:HarnessBook} (ok:HaOk b):∃ q l,allQ b=q::l:=by
 have h3:=ok.n3
 have h:=of_decide_eq_true (all1 factQu (show b.Needs.length<4 by omega))
 unfold allQ
 match quL b.Needs.length b.Needs.length [],h with
 | q::l,_=>exact ⟨q,l,rfl⟩
theorem allQ_mem {b:HarnessBook} {q:List Nat} (hq:q∈allQ b):(∀ h,h∈q→h<b.Needs.length)∧q.length=b.Needs.length:=by
 have:=quL_mem (n:=b.Needs.length) b.Needs.length [] q (fun h hh=>by cases hh) hq
 simpa using this
theorem bestQ_len {b:HarnessBook} (ok:HaOk b):(bestQ b).2.length≤3:=by
 have h3:=ok.n3
 have key:∀ (l:List (List Nat)) (s:Int×List Int),(∀ q,q∈l→q∈allQ b)→s.2.length≤3→(l.foldl (stepQ b) s).2.length≤3:=by
  intro l
  induction l with
  | nil=>intro s h1 h2;exact h2
  | cons q l ih=>
   intro s h1 h2
   rw [List.foldl_cons]
   refine ih _ (fun x hx=>h1 x (by simp [hx])) ?_
   unfold stepQ
   cases decide (s.1<lenN b (sureN b q)) with
   | false=>exact h2
   | true=>
    have:=(allQ_mem (h1 q (by simp))).2
    simp only [cond_true,castL_len]
    omega
 exact key _ _ (fun q h=>h) (by simp)
theorem hb33 {b:HarnessBook} (ok:HaOk b):g33 b=some ((bestQ b).2,0):=by
 have h3:=ok.n3
 obtain ⟨m,e,hm⟩:=hb59 ok
 have h:=hb88 ok hm b.Needs.length [] 1000 (-1,[]) (by simp) (by omega) (fun h hh=>by cases hh)
 unfold g33
 rw [e,bsm]
 simp only [ne_eq,not_true_eq_false,decide_false,cond_false]
 simp only [castL,List.map_nil] at h
 rw [h,bsm]
 show ((slcL (bestQ b).2 0 ((bestQ b).2.length:Int)).bind _)=_
 rw [slcL_all,bsm]
theorem hb33_no {b:HarnessBook} (h:okHa b=false):g33 b=some ([],100):=by
 unfold g33
 rw [hb59_no h];rfl
theorem hb34 {b:HarnessBook} (ok:HaOk b):g34 b=some ((bestQ b).2,0):=by
 have h3:=ok.n3
 have hq:=hb90 ok b.Needs.length [] 1000 (by simp) (by omega)
 obtain ⟨q0,l0,e0⟩:=allQ_cons ok
 have hall:quL b.Needs.length b.Needs.length []=q0::l0:=e0
 have key:∀ (l:List (List Nat)) (i:Int) (s:Int×List Int),(∀ q,q∈l→q∈allQ b)→eachS (g34_11 b (hairL b)) (l.map castL) i (s.2,s.1)=some ((l.foldl (stepQ b) s).2,(l.foldl (stepQ b) s).1):=by
  intro l
  induction l with
  | nil=>intro i s h1;rfl
  | cons q l ih=>
   intro i s h1
   obtain ⟨s1,s2⟩:=s
   have hm:=(allQ_mem (h1 q (by simp))).1
   have hs:g34_11 b (hairL b) i (castL q) (s2,s1)=some ((stepQ b (s1,s2) q).2,(stepQ b (s1,s2) q).1):=by
    unfold g34_11
    simp only
    rw [hb64 ok hm,bsm,hb63 ok hm,bsm]
    show (bif decide (s1<lenN b (sureN b q)) then some (castL q,lenN b (sureN b q)) else some (s2,s1))=_
    unfold stepQ
    simp only
    cases decide (s1<lenN b (sureN b q))<;>rfl
   rw [List.map_cons,eachS,hs,bsm]
   exact ih (i+1) (stepQ b (s1,s2) q) (fun x hx=>h1 x (by simp [hx]))
 have hk:=key (q0::l0) 0 (-1,castL q0) (fun q h=>by rw [e0];exact h)
 have hl0:0≤lenN b (sureN b q0):=(len_bd ok (sure_lt b q0)).1
 unfold g34
 rw [hb19,haOk_to ok,bsm]
 simp only [cond_true,ne_eq,not_true_eq_false,decide_false,cond_false]
 rw [hb65 ok,bsm]
 simp only [castL,List.map_nil] at hq
 rw [hq,bsm,hall]
 show ((ixL (castL q0::l0.map castL) 0).bind fun p=>(eachS (g34_11 b (hairL b)) ((q0::l0).map castL) 0 (p,-1)).bind _)=_
 rw [show ixL (castL q0::l0.map castL) 0=some (castL q0) from rfl,bsm]
 simp only at hk
 rw [hk,bsm]
 unfold bestQ
 rw [e0,List.foldl_cons,List.foldl_cons]
 have e1:stepQ b (-1,castL q0) q0=stepQ b (-1,[]) q0:=by
  unfold stepQ
  rw [decide_eq_true (show (-1:Int)<lenN b (sureN b q0) by omega)]
  rfl
 rw [e1]
theorem counts_end {b:HarnessBook} {x:Int×Int} {L:List Int} {d:Int} (h1:g31 b=some x) (h2:g32 b=some x) (h3:g33 b=some (L,d)) (h4:g34 b=some (L,d)) (hl:L.length<900):g5 b=some true:=by
 obtain ⟨x1,x2⟩:=x
 unfold g5
 rw [h1,bsm]
 simp only
 rw [h2,bsm]
 simp only [ne_eq,not_true_eq_false,decide_false,Bool.or_self,cond_false]
 rw [h3,bsm]
 simp only
 rw [h4,bsm]
 simp only
 rw [hb17 L hl,bsm]
 simp only [decide_true,cond_true]
 rw [dressed_bind];rfl
theorem plain5 (b:HarnessBook):g5 b=some true:=by
 cases hok:okHa b with
 | false=>
  refine counts_end (hb31_no hok) ?_ (hb33_no hok) ?_ (by decide)
  ·unfold g32;rw [hb19,hok];rfl
  ·unfold g34;rw [hb19,hok];rfl
 | true=>
  have ok:=haOk_of hok
  exact counts_end (hb31 ok) (hb32 ok) (hb33 ok) (hb34 ok) (by have:=bestQ_len ok;omega)
end Go.Proofs.YtjooihelppcfkaaDoor
