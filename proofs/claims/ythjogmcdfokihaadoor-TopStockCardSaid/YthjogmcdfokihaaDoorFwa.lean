/- The framework: what a piece of code does to told states, part 1. Conditions: none. -/
import Derived.CallsIn
import Derived.OrdersIn
import Derived.Below
import Derived.Laws.World
import Derived.Laws.Cells
import Derived.Laws.Entries
import Derived.Laws.CopyRow
import Derived.IntWalk
import Derived.RangeFuncRecord
import Derived.RangeFuncLeaves
import Derived.KernelRfl
import Derived.Maps.AppendAt
import Derived.Laws.MakeOwn
import Derived.Laws.StructEq
import Derived.ChangeKeysEq
import Derived.MapKept
import Derived.ProofKit
import Derived.OpenShut
import Derived.LaidMore
import Derived.Lib.SliceRun
set_option linter.unusedVariables false
set_option linter.unusedSimpArgs false
namespace Go.Abs
inductive D where
 | int (k:IntKind) (n:Int)
 | bool (b:Bool)
 | str (s:ByteArray)
 | nilSl
 | nilPtr
 | nilMap
 | nilFn
 | nilIf
 | fn (f:Nat)
 | sl (es:Nat) (xs:List (List D))
instance:Inhabited D:=⟨.nilPtr⟩
inductive DV where
 | c (x:D)
 | a (xs:List D)
inductive V where
 | undef
 | d (x:D)
 | fp (row:List D) (off:Nat)
 | ptr (r off:Nat)
 | asl (r n:Nat)
 | aptr (r off:Nat)
 | vsl (r off n m:Nat)
 | wmp (g:Nat)
 | eptr (r n i off:Nat)
 | own (r n:Nat)
 | map (r:Nat)
 | clo (f:Nat) (first caps:List V)
 | yld
 | opq
 | fsl (es:Nat) (xs:List (List D))
 | fmp (es:List (DV×DV))
 | agg (cs:List V)
 | tup (vs:List V)
instance:Inhabited V:=⟨.undef⟩
inductive Blk where
 | var (T:Nat) (cs:List V)
 | row (T es:Nat) (xs:List (List D))
 | mp (es:List (DV×DV))
 | dm
 | dead
 | arr (T:Nat) (cs:List V)
inductive Unpl:Blk→Prop where
 | row (T es:Nat) (h:0<es):Unpl (.row T es [])
 | dead:Unpl .dead
def look {α:Type}:List (Nat×α)→Nat→Option α
 | [],_=>none
 | (k,v)::l,n=>bif Nat.beq k n then some v else look l n
theorem look_cons {α:Type} (k:Nat) (v:α) (l:List (Nat×α)) (n:Nat):look ((k,v)::l) n=if k=n then some v else look l n:=by
 by_cases h:k=n
 ·subst h;simp [look]
 ·have:Nat.beq k n=false:=by
   cases hb:Nat.beq k n with
   | true=>exact absurd (Nat.eq_of_beq_eq_true hb) h
   | false=>rfl
  simp [look,h,this]
inductive DRel (A:Nat→Prop) (w:World):D→Value→Prop where
 | int (k:IntKind) (n:Int):DRel A w (.int k n) (.int k n)
 | bool (b:Bool):DRel A w (.bool b) (.bool b)
 | str (s:ByteArray):DRel A w (.str s) (.string s)
 | nilSl:DRel A w .nilSl (.slice none 0 0)
 | nilPtr:DRel A w .nilPtr (.pointer none)
 | nilMap:DRel A w .nilMap (.map none)
 | nilFn:DRel A w .nilFn .nilFunc
 | nilIf:DRel A w .nilIf .nilIface
 | fn (f:Nat):DRel A w (.fn f) (.func (.func f) #[] #[])
 | sl (es:Nat) (xs:List (List D)) (a:Option Addr) (c:Nat) (cv:Nat→Nat→Value) (hc:xs.length≤c) (hb:c≤maxLen)
   (hA:0<xs.length→∃ g o,a=some ⟨g,o,none⟩∧A g)
   (hes:∀ (i:Nat) (row:List D),xs[i]?=some row→row.length=es)
   (hcell:∀ g o,a=some ⟨g,o,none⟩→∀ i j,i<xs.length→j<es→w.cell? ⟨g,o+i*es+j,none⟩=some (cv i j))
   (hrel:∀ (i j:Nat) (row:List D) (x:D),xs[i]?=some row→row[j]?=some x→DRel A w x (cv i j)) :
   DRel A w (.sl es xs) (.slice a xs.length c)
inductive DVRel (A:Nat→Prop) (w:World):DV→Value→Prop where
 | c (x:D) (v:Value) (h:DRel A w x v):DVRel A w (.c x) v
 | a (xs:List D) (vs:List Value) (hl:vs.length=xs.length) (h:∀ (i:Nat) (x:D) (v:Value),xs[i]?=some x→vs[i]?=some v→DRel A w x v):DVRel A w (.a xs) (.agg vs.toArray)
abbrev Pl:=Nat→Option (Nat×Nat)
abbrev Hp:=Nat→Option Blk
structure Cx where
 fm:Pl
 A:Nat→Prop
 O:Nat→Prop
 y:Nat
inductive VRel (c:Cx) (H:Hp) (U:Nat→Prop) (w:World):V→Value→Prop where
 | undef:VRel c H U w .undef (.tuple #[])
 | d (x:D) (v:Value) (h:DRel c.A w x v):VRel c H U w (.d x) v
 | fp (row:List D) (off b o:Nat) (hA:c.A b) (h:∀ (j:Nat) (x:D),row[j]?=some x→∃ cv,w.cell? ⟨b,o+j,none⟩=some cv∧DRel c.A w x cv) :
   VRel c H U w (.fp row off) (.pointer (some ⟨b,o+off,none⟩))
 | ptr (r off T g m:Nat) (cs:List V) (hH:H r=some (.var T cs)) (hf:c.fm r=some (g,m)):VRel c H U w (.ptr r off) (.pointer (some ⟨g,off,none⟩))
 | vsl (r off n k T g m:Nat) (cs:List V) (hb:k≤maxLen) (hH:H r=some (.var T cs)) (hf:c.fm r=some (g,m)):VRel c H U w (.vsl r off n k) (.slice (some ⟨g,off,none⟩) n k)
 | asl (r n:Nat) (ad:Addr) (hr:U r) (hb:n≤maxLen) (h:∀ T cs,H r=some (.arr T cs)→∃ g m,c.fm r=some (g,m)∧ad=⟨g,0,none⟩):VRel c H U w (.asl r n) (.slice (some ad) n n)
 | aptr (r off:Nat) (ad:Addr) (hr:U r) (h:∀ T cs,H r=some (.arr T cs)→∃ g m,c.fm r=some (g,m)∧ad=⟨g,off,none⟩):VRel c H U w (.aptr r off) (.pointer (some ad))
 | eptr (r n i off:Nat) (ad:Addr) (hr:U r) (hn:∀ T es xs,H r=some (.row T es xs)→n≤xs.length)
   (h:∀ T es xs,H r=some (.row T es xs)→xs.length=n→∃ g m,c.fm r=some (g,m)∧ad=⟨g,i*es+off,none⟩):VRel c H U w (.eptr r n i off) (.pointer (some ad))
 | own (r n:Nat) (a:Option Addr) (m:Nat) (hr:U r) (hb:n≤maxLen) (hn:∀ T es xs,H r=some (.row T es xs)→n≤xs.length)
   (h:∀ T es xs,H r=some (.row T es xs)→xs.length=n→(∃ g,c.fm r=some (g,m)∧a=some ⟨g,0,none⟩)∨(c.fm r=none∧a=none∧m=0)):VRel c H U w (.own r n) (.slice a n m)
 | map (r g m:Nat) (es:List (DV×DV)) (hH:H r=some (.mp es)) (hf:c.fm r=some (g,m)):VRel c H U w (.map r) (.map (some g))
 | clo (f:Nat) (first caps:List V) (fs cs:List Value) (hf:fs.length=first.length) (hc:cs.length=caps.length)
   (h1:∀ (i:Nat) (x:V) (v:Value),first[i]?=some x→fs[i]?=some v→VRel c H U w x v)
   (h2:∀ (i:Nat) (x:V) (v:Value),caps[i]?=some x→cs[i]?=some v→VRel c H U w x v) :
   VRel c H U w (.clo f first caps) (.func (.func f) fs.toArray cs.toArray)
 | wmp (g:Nat):VRel c H U w (.wmp g) (.map (some g))
 | yld:VRel c H U w .yld (.func (.yield c.y) #[] #[])
 | opq (v:Value) (h:v.oneCell'=true):VRel c H U w .opq v
 | fsl (es:Nat) (xs:List (List D)) (a:Option Addr) (h:DRel c.A w (.sl es xs) (.slice a xs.length xs.length)):VRel c H U w (.fsl es xs) (.slice a xs.length xs.length)
 | fmp (es:List (DV×DV)) (g:Nat) (en:Array MapEntry) (clock:Nat) (hA:c.A g) (hg:w.heap[g]?=some (.map en clock)) (hsz:en.size=es.length)
   (hen:∀ (i:Nat) (k v:DV) (e:MapEntry),es[i]?=some (k,v)→en[i]?=some e→DVRel c.A w k e.key∧DVRel c.A w v e.val):VRel c H U w (.fmp es) (.map (some g))
 | agg (cs:List V) (vs:List Value) (hl:vs.length=cs.length) (h:∀ (i:Nat) (x:V) (v:Value),cs[i]?=some x→vs[i]?=some v→VRel c H U w x v)
   (h1:∀ v,v∈vs→v.oneCell'=true):VRel c H U w (.agg cs) (.agg vs.toArray)
 | tup (cs:List V) (vs:List Value) (hl:vs.length=cs.length) (h:∀ (i:Nat) (x:V) (v:Value),cs[i]?=some x→vs[i]?=some v→VRel c H U w x v) :
   VRel c H U w (.tup cs) (.tuple vs.toArray)
theorem DRel.oneCell {A:Nat→Prop} {w:World} {x:D} {v:Value} (h:DRel A w x v):v.oneCell'=true:=by cases h<;>rfl
theorem cell_of_heap {w w':World} {g:Nat} (h:w'.heap[g]?=w.heap[g]?) (o:Nat):w'.cell? ⟨g,o,none⟩=w.cell? ⟨g,o,none⟩:=by
 simp only [World.cell?,h]
theorem DRel.mono {A A':Nat→Prop} {w w':World} {x:D} {v:Value} (h:DRel A w x v) (hA:∀ g,A g→A' g) (hw:∀ g,A g→w'.heap[g]?=w.heap[g]?):DRel A' w' x v:=by
 induction h with
 | int k n=>exact .int k n
 | bool b=>exact .bool b
 | str s=>exact .str s
 | nilSl=>exact .nilSl
 | nilPtr=>exact .nilPtr
 | nilMap=>exact .nilMap
 | nilFn=>exact .nilFn
 | nilIf=>exact .nilIf
 | fn f=>exact .fn f
 | sl es xs a c cv hc hb hA0 hes hcell hrel ih=>
  refine .sl es xs a c cv hc hb (fun hp=>?_) hes (fun g o ha i j hi hj=>?_) ih
  ·obtain ⟨g,o,e,hg⟩:=hA0 hp;exact ⟨g,o,e,hA _ hg⟩
  ·obtain ⟨g',o',e,hg⟩:=hA0 (by omega)
   rw [ha] at e;cases e
   rw [cell_of_heap (hw _ hg)]
   exact hcell _ _ ha i j hi hj
theorem DVRel.mono {A A':Nat→Prop} {w w':World} {x:DV} {v:Value} (h:DVRel A w x v) (hA:∀ g,A g→A' g) (hw:∀ g,A g→w'.heap[g]?=w.heap[g]?):DVRel A' w' x v:=by
 cases h with
 | c x v h=>exact .c x v (h.mono hA hw)
 | a xs vs hl h=>exact .a xs vs hl fun i x v hx hv=>(h i x v hx hv).mono hA hw
structure HStep (c:Cx) (H:Hp) (U:Nat→Prop) (c':Cx) (H':Hp) (U':Nat→Prop):Prop where
 hU:∀ r,U r→U' r
 hy:c'.y=c.y
 hA:∀ g,c.A g→c'.A g
 var:∀ r T cs,H r=some (.var T cs)→c'.fm r=c.fm r∧∃ cs',H' r=some (.var T cs')
 row:∀ r T es xs,U r→H' r=some (.row T es xs)→∃ ys,H r=some (.row T es ys)∧ys.length≤xs.length∧(xs.length=ys.length→c'.fm r=c.fm r)
 mp:∀ r es,H r=some (.mp es)→c'.fm r=c.fm r∧∃ es',H' r=some (.mp es')
 dm:∀ r,H r=some .dm→c'.fm r=c.fm r∧H' r=some .dm
 arr:∀ r T cs,U r→H' r=some (.arr T cs)→∃ cs0,H r=some (.arr T cs0)∧c'.fm r=c.fm r
theorem VRel.mono {c c':Cx} {H H':Hp} {U U':Nat→Prop} {w w':World} {x:V} {v:Value} (h:VRel c H U w x v)
  (hw:∀ g,c.A g→w'.heap[g]?=w.heap[g]?) (hs:HStep c H U c' H' U'):VRel c' H' U' w' x v:=by
 have hA:=hs.hA
 induction h with
 | undef=>exact .undef
 | d x v h=>exact .d x v (h.mono hA hw)
 | fp row off b o hb h=>
  refine .fp row off b o (hA _ hb) fun j x hj=>?_
  obtain ⟨cv,hc,hd⟩:=h j x hj
  exact ⟨cv,by rw [cell_of_heap (hw _ hb)];exact hc,hd.mono hA hw⟩
 | ptr r off T g m cs hH hf=>
  obtain ⟨e,cs',hH'⟩:=hs.var _ _ _ hH
  exact .ptr r off T g m cs' hH' (e.trans hf)
 | vsl r off n k T g m cs hb hH hf=>
  obtain ⟨e,cs',hH'⟩:=hs.var _ _ _ hH
  exact .vsl r off n k T g m cs' hb hH' (e.trans hf)
 | asl r n ad hr hb h=>
  refine .asl r n ad (hs.hU _ hr) hb (fun T cs hx=>?_)
  obtain ⟨cs0,h1,h2⟩:=hs.arr _ _ _ hr hx
  obtain ⟨g,m,h3,h4⟩:=h _ _ h1
  exact ⟨g,m,h2.trans h3,h4⟩
 | aptr r off ad hr h=>
  refine .aptr r off ad (hs.hU _ hr) (fun T cs hx=>?_)
  obtain ⟨cs0,h1,h2⟩:=hs.arr _ _ _ hr hx
  obtain ⟨g,m,h3,h4⟩:=h _ _ h1
  exact ⟨g,m,h2.trans h3,h4⟩
 | eptr r n i off ad hr hn h=>
  refine .eptr r n i off ad (hs.hU _ hr) (fun T es xs hx=>?_) (fun T es xs hx hl=>?_)
  ·obtain ⟨ys,hy,hle,_⟩:=hs.row _ _ _ _ hr hx
   exact Nat.le_trans (hn _ _ _ hy) hle
  ·obtain ⟨ys,hy,hle,hf⟩:=hs.row _ _ _ _ hr hx
   have h1:=hn _ _ _ hy
   obtain ⟨g,m,hg,ha⟩:=h _ _ _ hy (by omega)
   exact ⟨g,m,(hf (by omega)).trans hg,ha⟩
 | own r n a m hr hb hn h=>
  refine .own r n a m (hs.hU _ hr) hb (fun T es xs hx=>?_) (fun T es xs hx hl=>?_)
  ·obtain ⟨ys,hy,hle,_⟩:=hs.row _ _ _ _ hr hx
   exact Nat.le_trans (hn _ _ _ hy) hle
  ·obtain ⟨ys,hy,hle,hf⟩:=hs.row _ _ _ _ hr hx
   have h1:=hn _ _ _ hy
   rcases h _ _ _ hy (by omega) with ⟨g,hg,ha⟩ | ⟨hg,ha⟩
   ·exact .inl ⟨g,(hf (by omega)).trans hg,ha⟩
   ·exact .inr ⟨(hf (by omega)).trans hg,ha⟩
 | map r g m es hH hf=>
  obtain ⟨e,es',hH'⟩:=hs.mp _ _ hH
  exact .map r g m es' hH' (e.trans hf)
 | clo f first caps fs cs hf hc h1 h2 ih1 ih2=>exact .clo f first caps fs cs hf hc ih1 ih2
 | wmp g=>exact .wmp g
 | yld=>rw [← hs.hy];exact .yld
 | opq v h=>exact .opq v h
 | fsl es xs a h=>exact .fsl es xs a (h.mono hA hw)
 | fmp es g en clock hA0 hg hsz hen=>exact .fmp es g en clock (hA g hA0) ((hw g hA0).trans hg) hsz (fun i k v e h1 h2=>⟨(hen i k v e h1 h2).1.mono hA hw,(hen i k v e h1 h2).2.mono hA hw⟩)
 | agg cs vs hl h h1 ih=>exact .agg cs vs hl ih h1
 | tup cs vs hl h ih=>exact .tup cs vs hl ih
structure Fr where
 P:Nat→(Nat→Prop)→(Nat→Prop)→World→Prop
 mono:∀ y A A' O w w',P y A O w→(∀ g,A g→A' g)→(∀ g,A g∨O g→w'.heap[g]?=w.heap[g]?)→P y A' O w'
def Fr.emp:Fr:=⟨fun _ _ O _=>∀ g,¬ O g,fun _ _ _ _ _ _ h _ _=>h⟩
def BRel (c:Cx) (H:Hp) (U:Nat→Prop) (w:World) (g m:Nat):Blk→Prop
 | .var T cs=>∃ cur:Array Value,w.heap[g]?=some (.cells cur T (0,0))∧cur.size=cs.length ∧
   ∀ (j:Nat) (x:V) (cv:Value),cs[j]?=some x→cur[j]?=some cv→VRel c H U w x cv∧cv.oneCell'=true
 | .row T es xs=>∃ cur:Array Value,w.heap[g]?=some (.cells cur T (0,0))∧cur.size=m*es∧xs.length≤m∧m≤maxLen∧0<es ∧
   (∀ (i:Nat) (row:List D),xs[i]?=some row→row.length=es) ∧
   (∀ (i j:Nat) (row:List D) (x:D),xs[i]?=some row→row[j]?=some x→∃ cv,cur[i*es+j]?=some cv∧DRel c.A w x cv)
 | .mp es=>∃ (en:Array MapEntry) (clock:Nat),w.heap[g]?=some (.map en clock)∧en.size=es.length ∧
   ∀ (i:Nat) (k v:DV) (e:MapEntry),es[i]?=some (k,v)→en[i]?=some e→DVRel c.A w k e.key∧DVRel c.A w v e.val
 | .dm=>w.heap[g]?=some (.deferred (some []))
 | .dead=>False
 | .arr T cs=>∃ cur:Array Value,w.heap[g]?=some (.cells cur T (0,0))∧cur.size=cs.length ∧
   ∀ (j:Nat) (x:V) (cv:Value),cs[j]?=some x→cur[j]?=some cv→VRel c H U w x cv∧cv.oneCell'=true
abbrev Gl:=List (Nat×List D)
structure HRel (G:Gl) (c:Cx) (H:Hp) (U:Nat→Prop) (fr:Fr) (w:World):Prop where
 lt:∀ r b,H r=some b→U r
 pl:∀ r b,H r=some b→(∃ g m,c.fm r=some (g,m)∧BRel c H U w g m b)∨(c.fm r=none∧Unpl b)
 inj:∀ r r' b b' g m m',H r=some b→H r'=some b'→c.fm r=some (g,m)→c.fm r'=some (g,m')→r=r'
 nA:∀ r b g m,H r=some b→c.fm r=some (g,m)→¬ c.A g
 nO:∀ r b g m,H r=some b→c.fm r=some (g,m)→¬ c.O g
 AO:∀ g,c.A g→¬ c.O g
 Alt:∀ g,c.A g→g<w.heap.size
 Olt:∀ g,c.O g→g<w.heap.size
 fr:fr.P c.y c.A c.O w
 gl:∀ g row,look G g=some row→c.A g∧∀ (j:Nat) (x:D),row[j]?=some x→∃ cv,w.cell? ⟨g,j,none⟩=some cv∧DRel c.A w x cv
structure Ext (c:Cx) (H:Hp) (w:World) (c':Cx) (H':Hp) (w':World):Prop where
 os:w'.os=w.os
 tape:w'.tape=w.tape
 output:w'.output=w.output
 size:w.heap.size≤w'.heap.size
 hy:c'.y=c.y
 same:∀ g,g<w.heap.size→(∀ r b m,H r=some b→c.fm r≠some (g,m))→¬ c.O g→w'.heap[g]?=w.heap[g]?
 pl:∀ r b g m,H' r=some b→c'.fm r=some (g,m)→w.heap.size≤g∨c.O g∨∃ r0 b0 m0,H r0=some b0∧c.fm r0=some (g,m0)
 A:∀ g,c.A g→c'.A g
 A':∀ g,c'.A g→c.A g∨w.heap.size≤g∨c.O g∨∃ r0 b0 m0,H r0=some b0∧c.fm r0=some (g,m0)
 O':∀ g,c'.O g→w.heap.size≤g∨c.O g∨∃ r0 b0 m0,H r0=some b0∧c.fm r0=some (g,m0)
theorem Ext.refl (c:Cx) (H:Hp) (w:World):Ext c H w c H w where
 os:=rfl
 tape:=rfl
 output:=rfl
 size:=Nat.le_refl _
 hy:=rfl
 same:=fun _ _ _ _=>rfl
 pl:=fun r b g m h hf=>.inr (.inr ⟨r,b,m,h,hf⟩)
 A:=fun _ h=>h
 A':=fun _ h=>.inl h
 O':=fun _ h=>.inr (.inl h)
theorem Ext.trans {c c' c'':Cx} {H H' H'':Hp} {w w' w'':World} (h:Ext c H w c' H' w') (k:Ext c' H' w' c'' H'' w''):Ext c H w c'' H'' w'' where
 os:=k.os.trans h.os
 tape:=k.tape.trans h.tape
 output:=k.output.trans h.output
 size:=Nat.le_trans h.size k.size
 hy:=k.hy.trans h.hy
 same:=fun g hg hn hO=>by
  rw [← h.same g hg hn hO]
  refine k.same g (Nat.lt_of_lt_of_le hg h.size) (fun r b m hr hf=>?_) (fun ho=>?_)
  ·rcases h.pl r b g m hr hf with h1 | h1 | ⟨r0,b0,m0,h1,h2⟩
   ·omega
   ·exact hO h1
   ·exact hn r0 b0 m0 h1 h2
  ·rcases h.O' g ho with h1 | h1 | ⟨r0,b0,m0,h1,h2⟩
   ·omega
   ·exact hO h1
   ·exact hn r0 b0 m0 h1 h2
 pl:=fun r b g m hr hf=>by
  rcases k.pl r b g m hr hf with h1 | h1 | ⟨r0,b0,m0,h1,h2⟩
  ·exact .inl (Nat.le_trans h.size h1)
  ·exact h.O' g h1
  ·exact h.pl r0 b0 g m0 h1 h2
 A:=fun g hg=>k.A g (h.A g hg)
 A':=fun g hg=>by
  rcases k.A' g hg with h1 | h1 | h1 | ⟨r0,b0,m0,h1,h2⟩
  ·exact h.A' g h1
  ·exact .inr (.inl (Nat.le_trans h.size h1))
  ·exact .inr (h.O' g h1)
  ·exact .inr (h.pl r0 b0 g m0 h1 h2)
 O':=fun g hg=>by
  rcases k.O' g hg with h1 | h1 | ⟨r0,b0,m0,h1,h2⟩
  ·exact .inl (Nat.le_trans h.size h1)
  ·exact h.O' g h1
  ·exact h.pl r0 b0 g m0 h1 h2
end Go.Abs
namespace Go.Abs
def upd {α:Type} (f:Nat→Option α) (r:Nat) (x:α):Nat→Option α:=fun n=>if r=n then some x else f n
theorem upd_same {α:Type} (f:Nat→Option α) (r:Nat) (x:α):upd f r x r=some x:=by simp [upd]
theorem upd_other {α:Type} (f:Nat→Option α) (r n:Nat) (x:α) (h:r≠n):upd f r x n=f n:=by simp [upd,h]
theorem look_upd {α:Type} (k:Nat) (v:α) (l:List (Nat×α)):look ((k,v)::l)=upd (look l) k v:=by
 funext n;rw [look_cons];rfl
def Cx.put (c:Cx) (r g m:Nat):Cx:={ c with fm:=upd c.fm r (g,m) }
theorem BRel.mono {c c':Cx} {H H':Hp} {U U':Nat→Prop} {w w':World} {g m:Nat} {b:Blk} (h:BRel c H U w g m b)
  (hg:w'.heap[g]?=w.heap[g]?) (hw:∀ g,c.A g→w'.heap[g]?=w.heap[g]?) (hs:HStep c H U c' H' U'):BRel c' H' U' w' g m b:=by
 cases b with
 | var T cs=>
  obtain ⟨cur,h1,h2,h3⟩:=h
  exact ⟨cur,hg.trans h1,h2,fun j x cv hx hc=>let ⟨a,b⟩:=h3 j x cv hx hc;⟨a.mono hw hs,b⟩⟩
 | row T es xs=>
  obtain ⟨cur,h1,h2,h3,h4,h5,h6,h7⟩:=h
  exact ⟨cur,hg.trans h1,h2,h3,h4,h5,h6,fun i j row x hr hx=>let ⟨cv,a,b⟩:=h7 i j row x hr hx;⟨cv,a,b.mono hs.hA hw⟩⟩
 | mp es=>
  obtain ⟨en,clock,h1,h2,h3⟩:=h
  exact ⟨en,clock,hg.trans h1,h2,fun i k v e hk he=>let ⟨a,b⟩:=h3 i k v e hk he;⟨a.mono hs.hA hw,b.mono hs.hA hw⟩⟩
 | dm=>exact hg.trans h
 | dead=>exact h
 | arr T cs=>
  obtain ⟨cur,h1,h2,h3⟩:=h
  exact ⟨cur,hg.trans h1,h2,fun j x cv hx hc=>let ⟨a,b⟩:=h3 j x cv hx hc;⟨a.mono hw hs,b⟩⟩
theorem HRel.put' {G:Gl} {c:Cx} {H:Hp} {U U':Nat→Prop} {fr:Fr} {w w':World} (h:HRel G c H U fr w) (r g m:Nat) (b:Blk)
  (hs:HStep c H U (c.put r g m) (upd H r b) U') (os:w'.os=w.os) (tape:w'.tape=w.tape) (output:w'.output=w.output) (hsz:w.heap.size≤w'.heap.size)
  (hw:∀ g0,g0<w.heap.size→g0≠g→(∀ b m0,H r=some b→c.fm r≠some (g0,m0))→w'.heap[g0]?=w.heap[g0]?)
  (hg:w.heap.size≤g∨∃ b0 m0,H r=some b0∧c.fm r=some (g,m0)) (hr:U' r)
  (hB:BRel (c.put r g m) (upd H r b) U' w' g m b) :
  HRel G (c.put r g m) (upd H r b) U' fr w'∧Ext c H w (c.put r g m) (upd H r b) w':=by
 have hnA:¬ c.A g:=fun ha=>by
  rcases hg with h1 | ⟨b0,m0,h1,h2⟩
  ·have:=h.Alt g ha;omega
  ·exact h.nA _ _ _ _ h1 h2 ha
 have hnO:¬ c.O g:=fun ha=>by
  rcases hg with h1 | ⟨b0,m0,h1,h2⟩
  ·have:=h.Olt g ha;omega
  ·exact h.nO _ _ _ _ h1 h2 ha
 have hwA:∀ g0,c.A g0→w'.heap[g0]?=w.heap[g0]?:=fun g0 ha=>hw g0 (h.Alt g0 ha) (fun e=>hnA (e▸ha)) (fun b m0 h0 hf=>h.nA _ _ _ _ h0 hf ha)
 have hwO:∀ g0,c.O g0→w'.heap[g0]?=w.heap[g0]?:=fun g0 ha=>hw g0 (h.Olt g0 ha) (fun e=>hnO (e▸ha)) (fun b m0 h0 hf=>h.nO _ _ _ _ h0 hf ha)
 have blt:∀ r0 b0 g0 m0,H r0=some b0→c.fm r0=some (g0,m0)→g0<w.heap.size:=fun r0 b0 g0 m0 h0 hf0=>by
  obtain ⟨g1,m1,hf1,hb1⟩:=(h.pl r0 b0 h0).resolve_right (fun hn=>by rw [hf0] at hn;cases hn.1)
  rw [hf0] at hf1;cases hf1
  cases b0 with
  | var T cs=>obtain ⟨cur,hc,_⟩:=hb1;exact (Array.getElem?_eq_some_iff.1 hc).1
  | row T es xs=>obtain ⟨cur,hc,_⟩:=hb1;exact (Array.getElem?_eq_some_iff.1 hc).1
  | mp es=>obtain ⟨en,cl,hc,_⟩:=hb1;exact (Array.getElem?_eq_some_iff.1 hc).1
  | dm=>exact (Array.getElem?_eq_some_iff.1 (show w.heap[g0]?=_ from hb1)).1
  | dead=>exact hb1.elim
  | arr T cs=>obtain ⟨cur,hc,_⟩:=hb1;exact (Array.getElem?_eq_some_iff.1 hc).1
 have hne:∀ r0 b0 g0 m0,r≠r0→H r0=some b0→c.fm r0=some (g0,m0)→g0≠g:=fun r0 b0 g0 m0 hn h0 hf0 e=>by
  subst e
  rcases hg with h1 | ⟨b1,m1,h1,h2⟩
  ·have:=blt _ _ _ _ h0 hf0;omega
  ·exact hn (h.inj _ _ _ _ _ _ _ h1 h0 h2 hf0)
 refine ⟨⟨?_,?_,?_,?_,?_,h.AO,fun g0 ha=>Nat.lt_of_lt_of_le (h.Alt g0 ha) hsz,fun g0 ha=>Nat.lt_of_lt_of_le (h.Olt g0 ha) hsz,?_,?_⟩,⟨os,tape,output,hsz,rfl,?_,?_,fun _ h=>h,fun _ h=>.inl h,fun _ h=>.inr (.inl h)⟩⟩
 ·intro r0 b0 h0
  by_cases e:r=r0
  ·subst e;exact hr
  ·rw [upd_other _ _ _ _ e] at h0;exact hs.hU _ (h.lt _ _ h0)
 ·intro r0 b0 h0
  by_cases e:r=r0
  ·subst e;rw [upd_same] at h0;cases h0
   exact .inl ⟨g,m,upd_same _ _ _,hB⟩
  ·rw [upd_other _ _ _ _ e] at h0
   rcases h.pl _ _ h0 with ⟨g0,m0,hf0,hb0⟩ | ⟨hf0,hb0⟩
   ·exact .inl ⟨g0,m0,(upd_other _ _ _ _ e).trans hf0,hb0.mono (hw g0 (blt _ _ _ _ h0 hf0) (hne _ _ _ _ e h0 hf0) (fun b m0 h1 hf1=>e (h.inj _ _ _ _ _ _ _ h1 h0 hf1 hf0))) hwA hs⟩
   ·exact .inr ⟨(upd_other _ _ _ _ e).trans hf0,hb0⟩
 ·intro r0 r1 b0 b1 g0 m0 m1 h0 h1 f0 f1
  simp only [Cx.put] at f0 f1
  by_cases e0:r=r0<;>by_cases e1:r=r1
  ·exact e0.symm.trans e1
  ·subst e0;rw [upd_same] at f0;cases f0
   rw [upd_other _ _ _ _ e1] at h1 f1
   exact absurd rfl (hne _ _ _ _ e1 h1 f1)
  ·subst e1;rw [upd_same] at f1;cases f1
   rw [upd_other _ _ _ _ e0] at h0 f0
   exact absurd rfl (hne _ _ _ _ e0 h0 f0)
  ·rw [upd_other _ _ _ _ e0] at h0 f0
   rw [upd_other _ _ _ _ e1] at h1 f1
   exact h.inj _ _ _ _ _ _ _ h0 h1 f0 f1
 ·intro r0 b0 g0 m0 h0 f0
  simp only [Cx.put] at f0
  by_cases e:r=r0
  ·subst e;rw [upd_same] at f0;cases f0;exact hnA
  ·rw [upd_other _ _ _ _ e] at h0 f0;exact h.nA _ _ _ _ h0 f0
 ·intro r0 b0 g0 m0 h0 f0
  simp only [Cx.put] at f0
  by_cases e:r=r0
  ·subst e;rw [upd_same] at f0;cases f0;exact hnO
  ·rw [upd_other _ _ _ _ e] at h0 f0;exact h.nO _ _ _ _ h0 f0
 ·exact fr.mono _ _ _ _ _ _ h.fr (fun _ h=>h) (fun g0 ha=>ha.elim (hwA g0) (hwO g0))
 ·intro g0 row hg0
  obtain ⟨ha,hc⟩:=h.gl g0 row hg0
  refine ⟨ha,fun j x hx=>?_⟩
  obtain ⟨cv,h1,h2⟩:=hc j x hx
  exact ⟨cv,by rw [cell_of_heap (hwA g0 ha)];exact h1,h2.mono (fun _ h=>h) hwA⟩
 ·intro g0 hg0 hn hO
  refine hw g0 hg0 (fun e=>?_) (fun b m0 h0 hf=>hn _ _ _ h0 hf)
  subst e
  rcases hg with h1 | ⟨b1,m1,h1,h2⟩
  ·omega
  ·exact hn _ _ _ h1 h2
 ·intro r0 b0 g0 m0 h0 f0
  simp only [Cx.put] at f0
  by_cases e:r=r0
  ·subst e;rw [upd_same] at f0;cases f0
   exact hg.imp id fun ⟨b1,m1,h1,h2⟩=>.inr ⟨_,b1,m1,h1,h2⟩
  ·rw [upd_other _ _ _ _ e] at h0 f0
   exact .inr (.inr ⟨r0,b0,m0,h0,f0⟩)
theorem HRel.put {G:Gl} {c:Cx} {H:Hp} {U U':Nat→Prop} {fr:Fr} {w w':World} (h:HRel G c H U fr w) (r g m:Nat) (b:Blk)
  (hs:HStep c H U (c.put r g m) (upd H r b) U') (os:w'.os=w.os) (tape:w'.tape=w.tape) (output:w'.output=w.output) (hsz:w.heap.size≤w'.heap.size)
  (hw:∀ g0,g0<w.heap.size→g0≠g→w'.heap[g0]?=w.heap[g0]?)
  (hg:w.heap.size≤g∨∃ b0 m0,H r=some b0∧c.fm r=some (g,m0)) (hr:U' r)
  (hB:BRel (c.put r g m) (upd H r b) U' w' g m b) :
  HRel G (c.put r g m) (upd H r b) U' fr w'∧Ext c H w (c.put r g m) (upd H r b) w':=
 h.put' r g m b hs os tape output hsz (fun g0 h1 h2 _=>hw g0 h1 h2) hg hr hB
theorem HStep.new {G:Gl} {c:Cx} {H:Hp} {U:Nat→Prop} {fr:Fr} {w:World} (h:HRel G c H U fr w) (nm g m:Nat) (b:Blk) (hn:¬ U nm):HStep c H U (c.put nm g m) (upd H nm b) (fun r=>U r∨r=nm) where
 hU:=fun _ h=>.inl h
 hy:=rfl
 hA:=fun _ h=>h
 var:=fun r T cs hr=>by
  have hne:nm≠r:=fun e=>hn (e▸h.lt _ _ hr)
  exact ⟨upd_other _ _ _ _ hne,cs,(upd_other _ _ _ _ hne).trans hr⟩
 row:=fun r T es xs hlt hr=>by
  have hne:nm≠r:=fun e=>hn (e▸hlt)
  rw [upd_other _ _ _ _ hne] at hr
  exact ⟨xs,hr,Nat.le_refl _,fun _=>upd_other _ _ _ _ hne⟩
 mp:=fun r es hr=>by
  have hne:nm≠r:=fun e=>hn (e▸h.lt _ _ hr)
  exact ⟨upd_other _ _ _ _ hne,es,(upd_other _ _ _ _ hne).trans hr⟩
 dm:=fun r hr=>by
  have hne:nm≠r:=fun e=>hn (e▸h.lt _ _ hr)
  exact ⟨upd_other _ _ _ _ hne,(upd_other _ _ _ _ hne).trans hr⟩
 arr:=fun r T cs hlt hr=>by
  have hne:nm≠r:=fun e=>hn (e▸hlt)
  rw [upd_other _ _ _ _ hne] at hr
  exact ⟨cs,hr,upd_other _ _ _ _ hne⟩
theorem HStep.refl (c:Cx) (H:Hp) (U:Nat→Prop):HStep c H U c H U where
 hU:=fun _ h=>h
 hy:=rfl
 hA:=fun _ h=>h
 var:=fun r T cs hr=>⟨rfl,cs,hr⟩
 row:=fun r T es xs _ hr=>⟨xs,hr,Nat.le_refl _,fun _=>rfl⟩
 mp:=fun r es hr=>⟨rfl,es,hr⟩
 dm:=fun r hr=>⟨rfl,hr⟩
 arr:=fun r T cs _ hr=>⟨cs,hr,rfl⟩
theorem HStep.setVar {c:Cx} {H:Hp} {U:Nat→Prop} {r g m T:Nat} {cs cs':List V} (hr:H r=some (.var T cs)) (hf:c.fm r=some (g,m)) :
  HStep c H U (c.put r g m) (upd H r (.var T cs')) U where
 hU:=fun _ h=>h
 hy:=rfl
 hA:=fun _ h=>h
 var:=fun r0 T0 cs0 h0=>by
  by_cases e:r=r0
  ·subst e;rw [hr] at h0;cases h0
   exact ⟨(upd_same _ _ _).trans hf.symm,cs',upd_same _ _ _⟩
  ·exact ⟨upd_other _ _ _ _ e,cs0,(upd_other _ _ _ _ e).trans h0⟩
 row:=fun r0 T0 es xs _ h0=>by
  by_cases e:r=r0
  ·subst e;rw [upd_same] at h0;cases h0
  ·rw [upd_other _ _ _ _ e] at h0
   exact ⟨xs,h0,Nat.le_refl _,fun _=>upd_other _ _ _ _ e⟩
 mp:=fun r0 es h0=>by
  by_cases e:r=r0
  ·subst e;rw [hr] at h0;cases h0
  ·exact ⟨upd_other _ _ _ _ e,es,(upd_other _ _ _ _ e).trans h0⟩
 dm:=fun r0 h0=>by
  by_cases e:r=r0
  ·subst e;rw [hr] at h0;cases h0
  ·exact ⟨upd_other _ _ _ _ e,(upd_other _ _ _ _ e).trans h0⟩
 arr:=fun r0 T0 cs0 _ h0=>by
  by_cases e:r=r0
  ·subst e;rw [upd_same] at h0;cases h0
  ·rw [upd_other _ _ _ _ e] at h0
   exact ⟨cs0,h0,upd_other _ _ _ _ e⟩
theorem HRel.drew {G:Gl} {c:Cx} {H:Hp} {U:Nat→Prop} {fr:Fr} {w w':World} (h:HRel G c H U fr w) (hh:w'.heap=w.heap):HRel G c H U fr w':=by
 have hw:∀ g:Nat,w'.heap[g]?=w.heap[g]?:=fun g=>by rw [hh]
 exact ⟨h.lt,fun r b hr=>(h.pl r b hr).imp (fun ⟨g,m,hf,hb⟩=>⟨g,m,hf,hb.mono (hw g) (fun g _=>hw g) (HStep.refl _ _ _)⟩) id,h.inj,h.nA,h.nO,h.AO,
  fun g ha=>by rw [hh];exact h.Alt g ha,fun g ha=>by rw [hh];exact h.Olt g ha,fr.mono _ _ _ _ _ _ h.fr (fun _ h=>h) (fun g _=>hw g),
  fun g row hg=>let ⟨ha,hc⟩:=h.gl g row hg;⟨ha,fun j x hx=>let ⟨cv,h1,h2⟩:=hc j x hx;⟨cv,by rw [cell_of_heap (hw g)];exact h1,h2.mono (fun _ h=>h) (fun g _=>hw g)⟩⟩⟩
end Go.Abs
namespace Go.Abs
inductive Opd where
 | tmp (t:Nat)
 | cst (v:V)
 | glob (g:Nat)
abbrev En:=Nat→Option V
def ev (G:Gl) (E:En):Opd→Option V
 | .tmp t=>E t
 | .cst v=>some v
 | .glob g=>match look G g with | some row=>some (.fp row 0) | none=>none
structure Rel (G:Gl) (nt:Nat) (c:Cx) (U:Nat→Prop) (E:En) (H:Hp) (fr:Fr) (a:Act) (w:World):Prop where
 nt:a.tmps.size=nt
 env:∀ t v,E t=some v→∃ cv,a.tmps[t]?=some cv∧VRel c H U w v cv
 h:HRel G c H U fr w
theorem HRel.hA {G:Gl} {c:Cx} {U:Nat→Prop} {H:Hp} {fr:Fr} {w:World} (h:HRel G c H U fr w) {c':Cx} {H':Hp} {w':World} (hx:Ext c H w c' H' w') :
  ∀ g,c.A g→w'.heap[g]?=w.heap[g]?:=fun g ha=>hx.same g (h.Alt g ha) (fun r b m hr hf=>h.nA _ _ _ _ hr hf ha) (h.AO g ha)
theorem Rel.step {G:Gl} {nt:Nat} {c:Cx} {U:Nat→Prop} {E:En} {H:Hp} {fr:Fr} {a:Act} {w:World} (h:Rel G nt c U E H fr a w) {c':Cx} {U':Nat→Prop} {H':Hp} {fr':Fr} {w':World}
  (hs:HStep c H U c' H' U') (hh:HRel G c' H' U' fr' w') (hx:Ext c H w c' H' w'):Rel G nt c' U' E H' fr' a w' where
 nt:=h.nt
 env:=fun t v hv=>by
  obtain ⟨cv,h1,h2⟩:=h.env t v hv
  exact ⟨cv,h1,h2.mono (h.h.hA hx) hs⟩
 h:=hh
def putE (E:En) (d:Option Nat) (v:V):En:=match d with | some t=>upd E t v | none=>E
theorem Rel.put {G:Gl} {nt:Nat} {c:Cx} {U:Nat→Prop} {E:En} {H:Hp} {fr:Fr} {a:Act} {w:World} (h:Rel G nt c U E H fr a w) {d:Option Nat} {v:V} {cv:Value} (hd:∀ t,d=some t→t<nt)
  (hv:VRel c H U w v cv):Rel G nt c U (putE E d v) H fr (a.put d cv) w:=by
 cases d with
 | none=>exact h
 | some t=>
  have ht:=hd t rfl
  refine ⟨by simp [Act.put,h.nt],fun t' v' hv'=>?_,h.h⟩
  simp only [putE] at hv'
  by_cases e:t=t'
  ·subst e
   rw [upd_same] at hv'
   cases hv'
   exact ⟨cv,by simp only [Act.put];rw [Array.getElem?_setIfInBounds_self_of_lt (by rw [h.nt];exact ht)],hv⟩
  ·rw [upd_other _ _ _ _ e] at hv'
   obtain ⟨cv',h1,h2⟩:=h.env t' v' hv'
   exact ⟨cv',by simp only [Act.put];rw [Array.getElem?_setIfInBounds_ne e];exact h1,h2⟩
def trD:Value→Option D
 | .int k n=>some (.int k n)
 | .bool b=>some (.bool b)
 | .string s=>some (.str s)
 | .slice none 0 0=>some .nilSl
 | .pointer none=>some .nilPtr
 | .map none=>some .nilMap
 | .nilFunc=>some .nilFn
 | .nilIface=>some .nilIf
 | .func (.func f) ⟨[]⟩ ⟨[]⟩=>some (.fn f)
 | _=>none
theorem trD_ok {v:Value} {x:D} (h:trD v=some x) (A:Nat→Prop) (w:World):DRel A w x v:=by
 unfold trD at h
 split at h<;>first
  | (injection h with h;subst h;constructor)
  | cases h
def trDs:List Value→Option (List D)
 | []=>some []
 | v::vs=>match trD v,trDs vs with | some x,some xs=>some (x::xs) | _,_=>none
theorem trDs_ok:∀ {vs:List Value} {xs:List D},trDs vs=some xs→vs.length=xs.length∧∀ (A:Nat→Prop) (w:World) (i:Nat) (x:D) (v:Value),xs[i]?=some x→vs[i]?=some v→DRel A w x v
 | [],xs,h=>by
  simp only [trDs] at h;injection h with h;subst h
  exact ⟨rfl,fun A w i x v hx=>by simp at hx⟩
 | v::vs,xs,h=>by
  simp only [trDs] at h
  split at h
  ·rename_i x xs' h1 h2
   injection h with h;subst h
   obtain ⟨hl,hr⟩:=trDs_ok h2
   refine ⟨by simp [hl],fun A w i x0 v0 hx hv=>?_⟩
   cases i with
   | zero=>simp at hx hv;subst hx hv;exact trD_ok h1 A w
   | succ i=>exact hr A w i x0 v0 (by simpa using hx) (by simpa using hv)
  ·cases h
def trV:Value→Option V
 | .agg cs=>match trDs cs.toList with | some xs=>some (.agg (xs.map .d)) | none=>none
 | v=>match trD v with | some x=>some (.d x) | none=>none
theorem trV_ok {v:Value} {x:V} (h:trV v=some x) (c:Cx) (H:Hp) (U:Nat→Prop) (w:World):VRel c H U w x v:=by
 unfold trV at h
 split at h
 ·rename_i cs
  split at h
  ·rename_i xs hx
   injection h with h;subst h
   obtain ⟨hl,hr⟩:=trDs_ok hx
   have:=VRel.agg (c:=c) (H:=H) (U:=U) (w:=w) (xs.map .d) cs.toList (by simpa using hl) (fun i x v hx hv=>?_) (fun v hv=>?_)
   ·simpa using this
   ·simp only [List.getElem?_map,Option.map_eq_some_iff] at hx
    obtain ⟨y,hy,rfl⟩:=hx
    exact .d y v (hr c.A w i y v hy hv)
   ·obtain ⟨i,hi⟩:=List.getElem?_of_mem hv
    have hlt:i<xs.length:=by have:=(List.getElem?_eq_some_iff.1 hi).1;omega
    exact (hr c.A w i _ v (List.getElem?_eq_getElem hlt) hi).oneCell
  ·cases h
 ·split at h
  ·rename_i y hy
   injection h with h;subst h
   exact .d y v (trD_ok hy c.A w)
  ·cases h
def trO:Operand→Option Opd
 | .tmp t=>some (.tmp t)
 | .const v=>match trV v with | some x=>some (.cst x) | none=>none
 | .global g=>some (.glob g)
 | .func f=>some (.cst (.d (.fn f)))
theorem ev_ok {G:Gl} {nt:Nat} {c:Cx} {U:Nat→Prop} {E:En} {H:Hp} {fr:Fr} {a:Act} {w:World} (h:Rel G nt c U E H fr a w) {x:Operand} {x':Opd} (hx:trO x=some x') {v:V} (hv:ev G E x'=some v) :
  VRel c H U w v (a.eval x):=by
 cases x with
 | tmp t=>
  simp only [trO] at hx;injection hx with hx;subst hx
  obtain ⟨cv,h1,h2⟩:=h.env t v hv
  simp only [Act.eval]
  rw [Array.getD_eq_getD_getElem?,h1];exact h2
 | const u=>
  simp only [trO] at hx
  split at hx
  ·rename_i y hy
   injection hx with hx;subst hx
   simp only [ev] at hv;injection hv with hv;subst hv
   exact trV_ok hy _ _ _ _
  ·cases hx
 | global g=>
  simp only [trO] at hx;injection hx with hx;subst hx
  simp only [ev] at hv
  split at hv
  ·rename_i row hrow
   injection hv with hv;subst hv
   obtain ⟨hA,hc⟩:=h.h.gl g row hrow
   exact .fp row 0 g 0 hA (fun j x hj=>by simpa using hc j x hj)
  ·cases hv
 | func f=>
  simp only [trO] at hx;injection hx with hx;subst hx
  simp only [ev] at hv;injection hv with hv;subst hv
  exact .d _ _ (.fn f)
def trOs:List Operand→Option (List Opd)
 | []=>some []
 | x::xs=>match trO x,trOs xs with | some y,some ys=>some (y::ys) | _,_=>none
def evs (G:Gl) (E:En):List Opd→Option (List V)
 | []=>some []
 | x::xs=>match ev G E x,evs G E xs with | some y,some ys=>some (y::ys) | _,_=>none
theorem evs_ok {G:Gl} {nt:Nat} {c:Cx} {U:Nat→Prop} {E:En} {H:Hp} {fr:Fr} {a:Act} {w:World} (h:Rel G nt c U E H fr a w):∀ {xs:List Operand} {xs':List Opd},trOs xs=some xs'→∀ {vs:List V},evs G E xs'=some vs →
  (xs.map a.eval).length=vs.length∧∀ (i:Nat) (x:V) (v:Value),vs[i]?=some x→(xs.map a.eval)[i]?=some v→VRel c H U w x v
 | [],xs',hx,vs,hv=>by
  simp only [trOs] at hx;injection hx with hx;subst hx
  simp only [evs] at hv;injection hv with hv;subst hv
  exact ⟨rfl,fun i x v hx=>by simp at hx⟩
 | x::xs,xs',hx,vs,hv=>by
  simp only [trOs] at hx
  split at hx
  ·rename_i y ys h1 h2
   injection hx with hx;subst hx
   simp only [evs] at hv
   split at hv
   ·rename_i u us h3 h4
    injection hv with hv;subst hv
    obtain ⟨hl,hr⟩:=evs_ok h h2 h4
    refine ⟨by simpa using hl,fun i x0 v0 hx0 hv0=>?_⟩
    cases i with
    | zero=>simp at hx0 hv0;subst hx0 hv0;exact ev_ok h h1 h3
    | succ i=>exact hr i x0 v0 (by simpa using hx0) (by simpa using hv0)
   ·cases hv
  ·cases hx
def cellsOf:V→Option (List V)
 | .agg cs=>some cs
 | .undef=>none
 | .tup _=>none
 | v=>some [v]
theorem one_cells {v:Value} (h:v.oneCell'=true):v.cells=#[v]:=by cases v<;>first | rfl | simp [Value.oneCell'] at h
theorem VRel.one {c:Cx} {H:Hp} {U:Nat→Prop} {w:World} {v:V} {cv:Value} (h:VRel c H U w v cv) (hn:cellsOf v=some [v]) (hna:∀ cs,v≠.agg cs):cv.oneCell'=true:=by
 cases h with
 | undef=>simp [cellsOf] at hn
 | d x v h=>exact h.oneCell
 | opq v h=>exact h
 | agg cs vs=>exact absurd rfl (hna cs)
 | tup=>simp [cellsOf] at hn
 | _=>rfl
theorem cells_ok {c:Cx} {H:Hp} {U:Nat→Prop} {w:World} {v:V} {cv:Value} (h:VRel c H U w v cv) {cs:List V} (hc:cellsOf v=some cs) :
  cv.cells.size=cs.length∧(∀ (j:Nat) (x:V) (u:Value),cs[j]?=some x→cv.cells[j]?=some u→VRel c H U w x u∧u.oneCell'=true)∧∀ u∈cv.cells.toList,u.oneCell'=true:=by
 by_cases ha:∃ l,v=.agg l
 ·obtain ⟨l,rfl⟩:=ha
  simp only [cellsOf] at hc;injection hc with hc;subst hc
  cases h with
  | agg _ vs hl h h1=>
   refine ⟨by simpa [Value.cells] using hl,fun j x u hx hu=>?_,fun u hu=>h1 u (by simpa [Value.cells] using hu)⟩
   have hu':vs[j]?=some u:=by simpa [Value.cells] using hu
   exact ⟨h j x u hx hu',h1 u (List.mem_of_getElem? hu')⟩
 ·have hna:∀ cs,v≠.agg cs:=fun cs e=>ha ⟨cs,e⟩
  have hc':cs=[v]:=by
   cases v<;>simp only [cellsOf] at hc<;>first | exact absurd ⟨_,rfl⟩ ha | (injection hc with hc;exact hc.symm) | cases hc
  subst hc'
  have h1:=h.one hc hna
  rw [one_cells h1]
  refine ⟨rfl,fun j x u hx hu=>?_,fun u hu=>?_⟩
  ·cases j with
   | zero=>simp at hx hu;subst hx hu;exact ⟨h,h1⟩
   | succ j=>simp at hx
  ·simp at hu;subst hu;exact h1
theorem add_none (g o j:Nat):(⟨g,o,none⟩:Addr).add j=⟨g,o+j,none⟩:=by unfold Addr.add;split<;>simp_all
theorem cell_at {w:World} {g T o:Nat} {cur:Array Value} {f:Nat×Nat} (h:w.heap[g]?=some (.cells cur T f)):w.cell? ⟨g,o,none⟩=cur[o]?:=by simp [World.cell?,h]
def aggD:TypeDesc→Bool
 | .struct _ | .array _ _=>true
 | _=>false
section
variable {P:Program}
theorem run_isAgg {t:TypeId} {u:TypeDesc} (hu:P.underlying t=some u) (w:World):(isAgg t).run P w=.ok (aggD u) w:=by
 simp only [isAgg,Sem.run_bind,run_underlying hu,Result.andThen_ok]
 cases u<;>rfl
theorem run_sizeOf {t:TypeId} {i:TypeInfo} (hi:P.info? t=some i) (w:World):(sizeOf t).run P w=.ok i.size w:=by
 simp [sizeOf,typeInfo,hi]
theorem run_load_one {t:TypeId} {u:TypeDesc} (hu:P.underlying t=some u) (ha:aggD u=false) {w:World} {ad:Addr} {v:Value} (hc:w.cell? ad=some v) :
  (Instr.loadAt t (.pointer (some ad))).run P w=.ok v w:=by
 simp only [Instr.loadAt,Instr.sureAddr,loadVar,Sem.run_bind,Sem.run_pure,Result.andThen_ok,run_isAgg hu,ha]
 simp [hc]
theorem run_load_agg {t:TypeId} {u:TypeDesc} {i:TypeInfo} (hu:P.underlying t=some u) (ha:aggD u=true) (hi:P.info? t=some i) {w:World} {ad:Addr} (vs:List Value) (hl:vs.length=i.size)
  (hc:∀ (j:Nat) v,vs[j]?=some v→w.cell? (ad.add j)=some v):(Instr.loadAt t (.pointer (some ad))).run P w=.ok (.agg vs.toArray) w:=by
 have:=run_loadCells_list (P:=P) w ad vs hc
 rw [hl] at this
 simp only [Instr.loadAt,Instr.sureAddr,loadVar,Sem.run_bind,Sem.run_pure,Result.andThen_ok,run_isAgg hu,ha]
 simp [run_sizeOf hi,this]
theorem run_storeAt {t:TypeId} {i:TypeInfo} (hi:P.info? t=some i) {w:World} {g o T:Nat} {cur:Array Value} (hg:w.heap[g]?=some (.cells cur T (0,0))) {v:Value} (hs:v.cells.size=i.size)
  (ho:o+v.cells.size≤cur.size) (h1:∀ u∈v.cells.toList,u.oneCell'=true) :
  (Instr.storeAt t (.pointer (some ⟨g,o,none⟩)) v).run P w=.ok () (w.setRow g (cur.toList.take o++v.cells.toList++cur.toList.drop (o+v.cells.toList.length)).toArray):=by
 have:=run_storeCells_at (P:=P) g o T v.cells.toList 0 cur w hg (by simpa using ho) h1
 simp only [Instr.storeAt,Instr.sureAddr,storeVar,Sem.run_bind,Sem.run_pure,Result.andThen_ok,run_sizeOf hi,hs]
 simpa using this
end
end Go.Abs
namespace Go.Abs
inductive IOp where
 | mv (x:Opd)
 | pick (c a b:Opd)
 | bin (op:BinOp) (x y:Opd)
 | beq (neg:Bool) (x y:Opd)
 | un (op:UnOp) (x:Opd)
 | ext (x:Opd) (i:Nat)
 | fld (ag:Bool) (off sz:Nat) (x:Opd)
 | len (x:Opd)
 | lenS (x:Opd)
 | mm (mx:Bool) (xs:List Opd)
 | mkf (f:Nat) (first caps:List Opd)
 | build (z:List D) (parts:List (Nat×Nat×Opd))
 | alloc (T:Nat) (z:List D)
 | box (T:Nat) (x:Opd)
 | load (ag:Bool) (sz:Nat) (x:Opd)
 | store (sz:Nat) (a x:Opd)
 | faddr (off:Nat) (x:Opd)
 | iaS (es:Nat) (x i:Opd)
 | iaA (n es:Nat) (x i:Opd)
 | bsl (T es n:Nat) (z:List D) (parts:List (Nat×Nat×Opd))
 | app (T es bytes:Nat) (s x:Opd)
 | mksl (T es bytes:Nat) (z:List D) (l c:Opd)
 | slc (es:Nat) (x:Opd) (lo hi mx:Option Opd)
 | mkmap
 | lookup (kt:Nat) (ok:Bool) (z:List D) (ag:Bool) (x k:Opd)
 | mapup (kt:Nat) (m k x:Opd)
 | call (f:Nat) (args:List Opd)
 | callv (x:Opd) (args:List Opd)
 | aeq (neg:Bool) (t:Nat) (x y:Opd)
 | idx (n:Nat) (x i:Opd)
 | snil (x:Opd)
 | slcA (n es:Nat) (x lo hi:Opd)
 | conv (k:IntKind) (x:Opd)
def isAggV:Value→Bool
 | .agg _=>true
 | _=>false
def trOo:Option Operand→Option (Option Opd)
 | none=>some none
 | some x=>match trO x with | some y=>some (some y) | none=>none
def trParts (sz:Nat→Option (Nat×Nat)):List (Nat×Operand)→Option (List (Nat×Nat×Opd))
 | []=>some []
 | (i,x)::l=>match sz i,trO x,trParts sz l with | some (o,s),some y,some ys=>some ((o,s,y)::ys) | _,_,_=>none
def fieldPl (P:Program) (fs:Array Field) (i:Nat):Option (Nat×Nat):=
 match fs[i]? with
 | some f=>match P.info? f.type with | some j=>some (f.offset,j.size) | none=>none
 | none=>none
inductive Tr (P:Program):Op→IOp→Prop where
 | move {x:Operand} {x':Opd} (h:trO x=some x'):Tr P (.move x) (.mv x')
 | assign {x:Operand} {x':Opd} (h:trO x=some x'):Tr P (.assign x) (.mv x')
 | pick {c a b:Operand} {c' a' b':Opd} (hc:trO c=some c') (ha:trO a=some a') (hb:trO b=some b'):Tr P (.pick c a b) (.pick c' a' b')
 | bin {op:BinOp} {t yt:Nat} {k:IntKind} {x y:Operand} {x' y':Opd} (ht:P.underlying t=some (.int k)) (hx:trO x=some x') (hy:trO y=some y'):Tr P (.binOp op t x y yt) (.bin op x' y')
 | beq {t yt:Nat} {x y:Operand} {x' y':Opd} (ht:P.underlying t=some .bool) (hx:trO x=some x') (hy:trO y=some y'):Tr P (.binOp .eql t x y yt) (.beq false x' y')
 | bne {t yt:Nat} {x y:Operand} {x' y':Opd} (ht:P.underlying t=some .bool) (hx:trO x=some x') (hy:trO y=some y'):Tr P (.binOp .neq t x y yt) (.beq true x' y')
 | un {op:UnOp} {t:Nat} {x:Operand} {x':Opd} (hx:trO x=some x'):Tr P (.unOp op t x) (.un op x')
 | ext {x:Operand} {x':Opd} {i:Nat} (hx:trO x=some x'):Tr P (.extract x i) (.ext x' i)
 | fld {t:Nat} {fs:Array Field} {i:Nat} {f:Field} {u:TypeDesc} {j:TypeInfo} {x:Operand} {x':Opd} (ht:P.underlying t=some (.struct fs)) (hf:fs[i]?=some f) (hu:P.underlying f.type=some u)
   (hj:P.info? f.type=some j) (hx:trO x=some x'):Tr P (.field t x i) (.fld (aggD u) f.offset j.size x')
 | load {t:Nat} {u:TypeDesc} {i:TypeInfo} {x:Operand} {x':Opd} (hu:P.underlying t=some u) (hi:P.info? t=some i) (hx:trO x=some x'):Tr P (.load t x) (.load (aggD u) i.size x')
 | store {t:Nat} {i:TypeInfo} {a x:Operand} {a' x':Opd} (hi:P.info? t=some i) (ha:trO a=some a') (hx:trO x=some x'):Tr P (.store t a x) (.store i.size a' x')
 | box {t:Nat} {x:Operand} {x':Opd} (hx:trO x=some x'):Tr P (.box t x) (.box t x')
 | alloc {t:Nat} {i:TypeInfo} {z:Value} {zs:List D} (hi:P.info? t=some i) (hz:i.zero=some z) (hs:trDs z.cells.toList=some zs):Tr P (.alloc t) (.alloc t zs)
 | faddr {s:Nat} {fs:Array Field} {i:Nat} {f:Field} {j:TypeInfo} {x:Operand} {x':Opd} (ht:P.underlying s=some (.struct fs)) (hf:fs[i]?=some f) (hj:P.info? f.type=some j) (hz:j.size≠0)
   (hx:trO x=some x'):Tr P (.fieldAddr s x i) (.faddr f.offset x')
 | iaS {t e:Nat} {j:TypeInfo} {x i:Operand} {x' i':Opd} (ht:P.underlying t=some (.slice e)) (hj:P.info? e=some j) (hx:trO x=some x') (hi:trO i=some i'):Tr P (.indexAddr t x i) (.iaS j.size x' i')
 | iaA {t e n:Nat} {j:TypeInfo} {x i:Operand} {x' i':Opd} (ht:P.underlying t=some (.array n e)) (hj:P.info? e=some j) (hx:trO x=some x') (hi:trO i=some i'):Tr P (.indexAddr t x i) (.iaA n j.size x' i')
 | len {t e:Nat} {x:Operand} {x':Opd} (ht:P.underlying t=some (.slice e)) (hx:trO x=some x'):Tr P (.call { callee:=.builtin .len,args:=#[x],argTypes:=#[t] }) (.len x')
 | lenS {t:Nat} {x:Operand} {x':Opd} (ht:P.underlying t=some .string) (hx:trO x=some x'):Tr P (.call { callee:=.builtin .len,args:=#[x],argTypes:=#[t] }) (.lenS x')
 | mx {xs:Array Operand} {ts:Array TypeId} {xs':List Opd} (hx:trOs xs.toList=some xs'):Tr P (.call { callee:=.builtin .max,args:=xs,argTypes:=ts }) (.mm true xs')
 | mn {xs:Array Operand} {ts:Array TypeId} {xs':List Opd} (hx:trOs xs.toList=some xs'):Tr P (.call { callee:=.builtin .min,args:=xs,argTypes:=ts }) (.mm false xs')
 | mkf {f:Nat} {fs cs:Array Operand} {fs' cs':List Opd} (hf:trOs fs.toList=some fs') (hc:trOs cs.toList=some cs'):Tr P (.makeFunc (.func f) fs cs) (.mkf f fs' cs')
 | build {t:Nat} {fs:Array Field} {i:TypeInfo} {z:Value} {zs:List D} {ps:Array (Nat×Operand)} {ps':List (Nat×Nat×Opd)} (ht:P.underlying t=some (.struct fs)) (hi:P.info? t=some i)
   (hz:i.zero=some z) (hs:trDs z.cells.toList=some zs) (hp:trParts (fieldPl P fs) ps.toList=some ps') (hall:∀ f∈fs.toList,∃ j,P.info? f.type=some j):Tr P (.build t ps) (.build zs ps')
 | idx {t e n:Nat} {u:TypeDesc} {x i:Operand} {x' i':Opd} (ht:P.underlying t=some (.array n e)) (hj:∃ j,P.info? e=some j∧j.size=1) (hu:P.underlying e=some u) (ha:aggD u=false) (hx:trO x=some x') (hi:trO i=some i'):Tr P (.index t x i) (.idx n x' i')
 | buildA {t n e:Nat} {i j:TypeInfo} {z:Value} {zs:List D} {ps:Array (Nat×Operand)} {ps':List (Nat×Nat×Opd)} (ht:P.underlying t=some (.array n e)) (hi:P.info? t=some i)
   (hz:i.zero=some z) (hj:P.info? e=some j) (hs:trDs z.cells.toList=some zs) (hp:trParts (fun i=>some (i*j.size,j.size)) ps.toList=some ps'):Tr P (.build t ps) (.build zs ps')
 | bsl {t e n:Nat} {j:TypeInfo} {z:Value} {zs:List D} {ps:Array (Nat×Operand)} {ps':List (Nat×Nat×Opd)} (ht:P.underlying t=some (.slice e)) (hj:P.info? e=some j) (hz:j.zero=some z)
   (hs:trDs z.cells.toList=some zs) (hn:n*j.size≤2 ^ 24) (hj0:0<j.size) (hzs:zs.length=j.size) (hp:trParts (fun i=>some (i*j.size,j.size)) ps.toList=some ps'):Tr P (.buildSlice t n ps) (.bsl e j.size n zs ps')
 | app {t e:Nat} {j:TypeInfo} {z:Value} {zs:List D} {s x:Operand} {s' x':Opd} (ht:P.underlying t=some (.slice e)) (hj:P.info? e=some j) (hz:j.zero=some z) (hzs:trDs z.cells.toList=some zs)
   (hzl:zs.length=j.size) (hj0:0<j.size) (hb0:0<j.bytes) (hs:trO s=some s') (hx:trO x=some x'):Tr P (.call { callee:=.builtin .append,args:=#[s,x],argTypes:=#[t,t] }) (.app e j.size j.bytes s' x')
 | mksl {t e:Nat} {j:TypeInfo} {z:Value} {zs:List D} {l c:Operand} {l' c':Opd} (ht:P.underlying t=some (.slice e)) (hj:P.info? e=some j) (hz:j.zero=some z) (hzs:trDs z.cells.toList=some zs)
   (hzl:zs.length=j.size) (hj0:0<j.size) (hl:trO l=some l') (hc:trO c=some c'):Tr P (.makeSlice t l c) (.mksl e j.size j.bytes zs l' c')
 | slc {t e:Nat} {j:TypeInfo} {x:Operand} {lo hi mx:Option Operand} {x':Opd} {lo' hi' mx':Option Opd} (ht:P.underlying t=some (.slice e)) (hj:P.info? e=some j) (hx:trO x=some x') (hl:trOo lo=some lo') (hh:trOo hi=some hi')
   (hm:trOo mx=some mx'):Tr P (.slice t x lo hi mx) (.slc j.size x' lo' hi' mx')
 | aeq {t yt:Nat} {fs:Array Field} {x y:Operand} {x' y':Opd} (ht:P.underlying t=some (.struct fs)) (hx:trO x=some x') (hy:trO y=some y'):Tr P (.binOp .eql t x y yt) (.aeq false t x' y')
 | ane {t yt:Nat} {fs:Array Field} {x y:Operand} {x' y':Opd} (ht:P.underlying t=some (.struct fs)) (hx:trO x=some x') (hy:trO y=some y'):Tr P (.binOp .neq t x y yt) (.aeq true t x' y')
 | aeqA {t yt n e:Nat} {x y:Operand} {x' y':Opd} (ht:P.underlying t=some (.array n e)) (hx:trO x=some x') (hy:trO y=some y'):Tr P (.binOp .eql t x y yt) (.aeq false t x' y')
 | aneA {t yt n e:Nat} {x y:Operand} {x' y':Opd} (ht:P.underlying t=some (.array n e)) (hx:trO x=some x') (hy:trO y=some y'):Tr P (.binOp .neq t x y yt) (.aeq true t x' y')
 | snil {t e yt n c:Nat} {x:Operand} {x':Opd} (ht:P.underlying t=some (.slice e)) (hx:trO x=some x'):Tr P (.binOp .eql t x (.const (.slice none n c)) yt) (.snil x')
 | slcA {t e n:Nat} {j:TypeInfo} {x lo hi:Operand} {x' lo' hi':Opd} (ht:P.underlying t=some (.array n e)) (hj:P.info? e=some j) (hx:trO x=some x') (hl:trO lo=some lo') (hh:trO hi=some hi'):Tr P (.slice t x (some lo) (some hi) none) (.slcA n j.size x' lo' hi')
 | slcA0 {t e n:Nat} {j:TypeInfo} {x hi:Operand} {x' hi':Opd} (ht:P.underlying t=some (.array n e)) (hj:P.info? e=some j) (hx:trO x=some x') (hh:trO hi=some hi'):Tr P (.slice t x none (some hi) none) (.slcA n j.size x' (.cst (.d (.int .i64 0))) hi')
 | conv {s t:Nat} {ks k:IntKind} {x:Operand} {x':Opd} (hs:P.underlying s=some (.int ks)) (ht:P.underlying t=some (.int k)) (hx:trO x=some x'):Tr P (.convert s t x) (.conv k x')
 | mkmap {t:Nat}:Tr P (.makeMap t none) .mkmap
 | lookup {t kt et:Nat} {u:TypeDesc} {i:TypeInfo} {z:Value} {zs:List D} {x k:Operand} {x' k':Opd} {ok:Bool} (ht:P.underlying t=some (.map kt et)) (hu:P.underlying et=some u) (hi:P.info? et=some i) (hz:i.zero=some z) (hzs:trDs z.cells.toList=some zs)
   (hza:isAggV z=aggD u) (hx:trO x=some x') (hk:trO k=some k'):Tr P (.lookup t x k ok) (.lookup kt ok zs (aggD u) x' k')
 | mapup {t kt et:Nat} {m k x:Operand} {m' k' x':Opd} (ht:P.underlying t=some (.map kt et)) (hm:trO m=some m') (hk:trO k=some k') (hx:trO x=some x'):Tr P (.mapUpdate t m k x) (.mapup kt m' k' x')
 | mapin {t kt et:Nat} {m k x:Operand} {m' k' x':Opd} (ht:P.underlying t=some (.map kt et)) (hm:trO m=some m') (hk:trO k=some k') (hx:trO x=some x'):Tr P (.insert t m k x) (.mapup kt m' k' x')
 | call {f : Nat} {xs : Array Operand} {ts : Array TypeId} {xs' : List Opd} (hx : trOs xs.toList = some xs') (hn : ∃ fn, P.funcs[f]? = some fn ∧ (fn.name == "runtime.NumGoroutine") = false ∧ fn.body.isNone = false) :
   Tr P (.call { callee:=.value (.func f),args:=xs,argTypes:=ts }) (.call f xs')
 | callv {t:Nat} {xs:Array Operand} {ts:Array TypeId} {xs':List Opd} (hx:trOs xs.toList=some xs') :
   Tr P (.call { callee:=.value (.tmp t),args:=xs,argTypes:=ts }) (.callv (.tmp t) xs')
structure Eff where
 st:List (Nat×Blk)
 nw:List Nat
def hpOf:List (Nat×Blk)→Hp→Hp
 | [],H=>H
 | (r,b)::l,H=>upd (hpOf l H) r b
def usOf (nw:List Nat) (U:Nat→Prop):Nat→Prop:=fun r=>U r∨r∈nw
def Evs (G:Gl) (E:En):List (Opd×V)→Prop
 | []=>True
 | (x,v)::l=>ev G E x=some v∧Evs G E l
def Rds (H:Hp):List (Nat×Blk)→Prop
 | []=>True
 | (r,b)::l=>H r=some b∧Rds H l
def FOk (F:Fence):Prop:=F=Fence.wide∨∃ l,F=Fence.wide.inRound l
theorem FOk.fn {F:Fence} (h:FOk F) (f:Nat):F.fn f:=by
 rcases h with rfl | ⟨l,rfl⟩<;>exact trivial
theorem FOk.depth {F:Fence} (h:FOk F):F.depth=none:=by
 rcases h with rfl | ⟨l,rfl⟩<;>rfl
def LStp (P:Program) (G:Gl) (nt:Nat) (io:IOp) (xs:List (Opd×V)) (rs:List (Nat×Blk)) (v:V) (e:Eff) (fr fr':Fr):Prop:=
 ∀ (U:Nat→Prop) (E:En) (H:Hp) (o:Oper) (F:Fence) (c:Cx) (a:Act) (w:World) (next:Act→World→Prop) (Q:Exit→Act→World→Prop),
  Tr P o.op io→FOk F→Rel G nt c U E H fr a w→Evs G E xs→Rds H rs→(∀ r∈e.nw,¬ U r) →
  (∀ c' cv w',HStep c H U c' (hpOf e.st H) (usOf e.nw U)→Rel G nt c' (usOf e.nw U) E (hpOf e.st H) fr' a w'→VRel c' (hpOf e.st H) (usOf e.nw U) w' v cv→Ext c H w c' (hpOf e.st H) w'→next (a.put o.dst cv) w') →
  o.wpIn F 0 P a w next Q
section
variable {P:Program} {G:Gl} {nt:Nat}
theorem wp_value {F:Fence} (hF:FOk F) {o:Oper} {a:Act} {w w':World} {cv:Value} {next:Act→World→Prop} {Q:Exit→Act→World→Prop} (hd:∀ c,o.op≠.defer c)
  (hr:(execOp a.eval o).run P w=.ok (.value cv) w') (h:next (a.put o.dst cv) w'):o.wpIn F 0 P a w next Q:=
 ⟨fun f _=>hF.fn f,by rw [Oper.semAt_eq _ _ _ hd,hr];exact h⟩
theorem wp_skip' {F:Fence} (hF:FOk F) {o:Oper} {a:Act} {w w':World} {next:Act→World→Prop} {Q:Exit→Act→World→Prop} (hd:∀ c,o.op≠.defer c)
  (hr:(execOp a.eval o).run P w=.ok .skip w') (h:next (a.put o.dst undef) w'):o.wpIn F 0 P a w next Q:=
 ⟨fun f _=>hF.fn f,by rw [Oper.semAt_eq _ _ _ hd,hr];exact h⟩
theorem usOf_nil (U:Nat→Prop):usOf [] U=U:=by funext r;simp [usOf]
theorem LStp.pure {io:IOp} {xs:List (Opd×V)} {rs:List (Nat×Blk)} {v:V} {fr:Fr}
  (h:∀ (U:Nat→Prop) (E:En) (H:Hp) (o:Oper) (c:Cx) (a:Act) (w:World),Tr P o.op io→Rel G nt c U E H fr a w→Evs G E xs→Rds H rs →
   (∀ c,o.op≠.defer c)∧∃ cv,(execOp a.eval o).run P w=.ok (.value cv) w∧VRel c H U w v cv):LStp P G nt io xs rs v ⟨[],[]⟩ fr fr:=by
 intro U E H o F c a w next Q ht hF hR hE hH _ k
 obtain ⟨hd,cv,hr,hv⟩:=h U E H o c a w ht hR hE hH
 refine wp_value hF hd hr (k c cv w ?_ ?_ ?_ (Ext.refl _ _ _))
 ·simpa [hpOf,usOf_nil] using HStep.refl c H U
 ·simpa [hpOf,usOf_nil] using hR
 ·simpa [hpOf,usOf_nil] using hv
theorem s_mv {x:Opd} {u:V} {fr:Fr}:LStp P G nt (.mv x) [(x,u)] [] u ⟨[],[]⟩ fr fr:=by
 refine .pure fun U E H o c a w ht hR hE hH=>?_
 generalize hop:o.op=op at ht
 cases ht with
 | move h=>exact ⟨by simp,_,by simp only [execOp,hop,Sem.run_pure],ev_ok hR h hE.1⟩
 | assign h=>exact ⟨by simp,_,by simp only [execOp,hop,Sem.run_pure],ev_ok hR h hE.1⟩
theorem VRel.bool_inv {c:Cx} {H:Hp} {U:Nat→Prop} {w:World} {b:Bool} {cv:Value} (h:VRel c H U w (.d (.bool b)) cv):cv=.bool b:=by
 cases h with | d _ _ h=>cases h;rfl
theorem VRel.int_inv {c:Cx} {H:Hp} {U:Nat→Prop} {w:World} {k:IntKind} {n:Int} {cv:Value} (h:VRel c H U w (.d (.int k n)) cv):cv=.int k n:=by
 cases h with | d _ _ h=>cases h;rfl
theorem VRel.str_inv {c:Cx} {H:Hp} {U:Nat→Prop} {w:World} {s:ByteArray} {cv:Value} (h:VRel c H U w (.d (.str s)) cv):cv=.string s:=by
 cases h with | d _ _ h=>cases h;rfl
theorem s_pickT {x a b:Opd} {u:V} {fr:Fr}:LStp P G nt (.pick x a b) [(x,.d (.bool true)),(a,u)] [] u ⟨[],[]⟩ fr fr:=by
 refine .pure fun U E H o c ac w ht hR hE hH=>?_
 generalize hop:o.op=op at ht
 cases ht with
 | pick h1 h2 h3=>
  have e:=(ev_ok hR h1 hE.1).bool_inv
  exact ⟨by simp,_,by simp only [execOp,hop,asBool,e,Sem.run_bind,Sem.run_pure,Result.andThen_ok];rfl,ev_ok hR h2 hE.2.1⟩
theorem s_pickF {x a b:Opd} {u:V} {fr:Fr}:LStp P G nt (.pick x a b) [(x,.d (.bool false)),(b,u)] [] u ⟨[],[]⟩ fr fr:=by
 refine .pure fun U E H o c ac w ht hR hE hH=>?_
 generalize hop:o.op=op at ht
 cases ht with
 | pick h1 h2 h3=>
  have e:=(ev_ok hR h1 hE.1).bool_inv
  exact ⟨by simp,_,by simp only [execOp,hop,asBool,e,Sem.run_bind,Sem.run_pure,Result.andThen_ok];rfl,ev_ok hR h3 hE.2.1⟩
def inR:IntKind→Int→Prop
 | .i8,n=>-128≤n∧n≤127
 | .i16,n=>-32768≤n∧n≤32767
 | .i32,n=>-2147483648≤n∧n≤2147483647
 | .i64,n=>-9223372036854775808≤n∧n≤9223372036854775807
 | .u8,n=>0≤n∧n≤255
 | .u16,n=>0≤n∧n≤65535
 | .u32,n=>0≤n∧n≤4294967295
 | .u64,n=>0≤n∧n≤18446744073709551615
theorem wrap_in {k:IntKind} {n:Int} (h:inR k n):k.wrap n=n:=by
 cases k
 ·exact IntWalk.i8_in n h
 ·exact IntWalk.i16_in n h
 ·exact IntWalk.i32_in n h
 ·exact IntWalk.i64_in n h
 ·exact IntWalk.u8_in n h
 ·exact IntWalk.u16_in n h
 ·exact IntWalk.u32_in n h
 ·exact IntWalk.u64_in n h
theorem run_bin_int {op:BinOp} {t:TypeId} {x y:Operand} {k:IntKind} {p q:Int} {w:World} {r:Value} (h:(binOp op t (.int k p) (.int k q)).run P w=.ok r w) :
  (do eqGuard op t x y (.int k p) (.int k q);binOp op t (.int k p) (.int k q)).run P w=.ok r w:=by
 have hg:(eqGuard op t x y (.int k p) (.int k q)).run P w=.ok () w:=by
  unfold eqGuard
  cases op<;>rfl
 simp only [Sem.run_bind,hg,Result.andThen_ok,h]
def arR:BinOp→Int→Int→Option Int
 | .add,p,q=>some (p+q)
 | .sub,p,q=>some (p - q)
 | .mul,p,q=>some (p*q)
 | _,_,_=>none
def cmR:BinOp→Int→Int→Option Bool
 | .eql,p,q=>some (decide (p=q))
 | .neq,p,q=>some (decide (p≠q))
 | .lss,p,q=>some (decide (p<q))
 | .leq,p,q=>some (decide (p≤q))
 | .gtr,p,q=>some (decide (q<p))
 | .geq,p,q=>some (decide (q≤p))
 | _,_,_=>none
theorem run_cm {op:BinOp} {k:IntKind} {p q:Int} {r:Bool} (hr:cmR op p q=some r) (t:TypeId) (w:World):(binOp op t (.int k p) (.int k q)).run P w=.ok (.bool r) w:=by
 have key : ∀ op, (op = .eql ∨ op = .neq ∨ op = .lss ∨ op = .leq ∨ op = .gtr ∨ op = .geq) → binOp op t (.int k p) (.int k q) = if k ≠ k then (stuck "BinOp: operands of different kinds" : Sem Value) else Op.intCmp op p q := by
  rintro op (rfl | rfl | rfl | rfl | rfl | rfl)<;>rfl
 cases op<;>simp only [cmR] at hr<;>first
  | (cases hr;done)
  | (injection hr with hr;subst hr;rw [key _ (by simp)];simp [Op.intCmp];done)
  | (injection hr with hr;subst hr;rw [key _ (by simp)];simp [Op.intCmp];by_cases h:p=q<;>simp [h])
theorem s_cm {op:BinOp} {x y:Opd} {k:IntKind} {p q:Int} {r:Bool} {fr:Fr} (hr:cmR op p q=some r):LStp P G nt (.bin op x y) [(x,.d (.int k p)),(y,.d (.int k q))] [] (.d (.bool r)) ⟨[],[]⟩ fr fr:=by
 refine .pure fun U E H o c ac w ht hR hE hH=>?_
 generalize hop:o.op=op' at ht
 cases ht with
 | bin ht h1 h2=>
  have e1:=(ev_ok hR h1 hE.1).int_inv
  have e2:=(ev_ok hR h2 hE.2.1).int_inv
  refine ⟨by simp,.bool r,?_,.d _ _ (.bool r)⟩
  simp only [execOp,hop,e1,e2]
  rw [Sem.run_bind,run_bin_int (run_cm hr _ w)];rfl
end
end Go.Abs
namespace Go.Abs
section
variable {P:Program} {G:Gl} {nt:Nat}
theorem run_rem {k:IntKind} {p q:Int} (hq:q≠0) (t:TypeId) (w:World):(binOp .rem t (.int k p) (.int k q)).run P w=.ok (.int k (p.tmod q)) w:=by
 have key : binOp .rem t (.int k p) (.int k q) = if k ≠ k then (stuck "BinOp: operands of different kinds" : Sem Value) else Op.intDiv .rem k p q := rfl
 rw [key];simp [Op.intDiv,hq]
theorem s_binop {op:BinOp} {x y:Opd} {k:IntKind} {p q:Int} {v:Value} {r:V} {fr:Fr} (h:∀ t (w:World),(binOp op t (.int k p) (.int k q)).run P w=.ok v w) (hv:∀ c H U w,VRel c H U w r v) :
  LStp P G nt (.bin op x y) [(x,.d (.int k p)),(y,.d (.int k q))] [] r ⟨[],[]⟩ fr fr:=by
 refine .pure fun U E H o c ac w ht hR hE hH=>?_
 generalize hop:o.op=op' at ht
 cases ht with
 | bin ht h1 h2=>
  have e1:=(ev_ok hR h1 hE.1).int_inv
  have e2:=(ev_ok hR h2 hE.2.1).int_inv
  refine ⟨by simp,v,?_,hv _ _ _ _⟩
  simp only [execOp,hop,e1,e2]
  rw [Sem.run_bind,run_bin_int (h _ w)];rfl
theorem s_rem {x y:Opd} {k:IntKind} {p q:Int} {fr:Fr} (hq:q≠0):LStp P G nt (.bin .rem x y) [(x,.d (.int k p)),(y,.d (.int k q))] [] (.d (.int k (p.tmod q))) ⟨[],[]⟩ fr fr:=
 s_binop (fun t w=>run_rem hq t w) (fun _ _ _ _=>.d _ _ (.int _ _))
theorem run_equal_bool {t:TypeId} (ht:P.underlying t=some .bool) (p q:Bool) (w:World):(Op.equal t (.bool p) (.bool q)).run P w=.ok (p==q) w:=by
 have:Op.equal t (.bool p) (.bool q)=Op.equalIn (9999+1) t (.bool p) (.bool q):=rfl
 rw [this]
 unfold Op.equalIn
 simp [run_underlying ht]
theorem run_guard_bool (op:BinOp) (t:TypeId) (x y:Operand) (p q:Bool) (w:World):(eqGuard op t x y (.bool p) (.bool q)).run P w=.ok () w:=by
 unfold eqGuard;cases op<;>rfl
theorem s_beq {neg:Bool} {x y:Opd} {p q:Bool} {fr:Fr}:LStp P G nt (.beq neg x y) [(x,.d (.bool p)),(y,.d (.bool q))] [] (.d (.bool (neg != (p==q)))) ⟨[],[]⟩ fr fr:=by
 refine .pure fun U E H o c ac w ht hR hE hH=>?_
 generalize hop:o.op=op' at ht
 cases ht with
 | beq ht h1 h2=>
  have e1:=(ev_ok hR h1 hE.1).bool_inv
  have e2:=(ev_ok hR h2 hE.2.1).bool_inv
  refine ⟨by simp,.bool (p==q),?_,?_⟩
  ·have key:∀ t,binOp .eql t (.bool p) (.bool q)=(do pure (.bool (← Op.equal t (.bool p) (.bool q)))):=fun _=>rfl
   simp only [execOp,hop,e1,e2,key,Sem.run_bind,run_guard_bool,Result.andThen_ok,run_equal_bool ht,Sem.run_pure]
  ·have:(false != (p==q))=(p==q):=by cases (p==q)<;>rfl
   rw [this];exact .d _ _ (.bool _)
 | bne ht h1 h2=>
  have e1:=(ev_ok hR h1 hE.1).bool_inv
  have e2:=(ev_ok hR h2 hE.2.1).bool_inv
  refine ⟨by simp,.bool (!(p==q)),?_,?_⟩
  ·have key:∀ t,binOp .neq t (.bool p) (.bool q)=(do pure (.bool (!(← Op.equal t (.bool p) (.bool q))))):=fun _=>rfl
   simp only [execOp,hop,e1,e2,key,Sem.run_bind,run_guard_bool,Result.andThen_ok,run_equal_bool ht,Sem.run_pure]
  ·have:(true != (p==q))=(!(p==q)):=by cases (p==q)<;>rfl
   rw [this];exact .d _ _ (.bool _)
theorem s_not {x:Opd} {b:Bool} {fr:Fr}:LStp P G nt (.un .not x) [(x,.d (.bool b))] [] (.d (.bool (!b))) ⟨[],[]⟩ fr fr:=by
 refine .pure fun U E H o c ac w ht hR hE hH=>?_
 generalize hop:o.op=op' at ht
 cases ht with
 | un h1=>
  have e1:=(ev_ok hR h1 hE.1).bool_inv
  exact ⟨by simp,.bool (!b),by simp [execOp,hop,e1,Op.unary],.d _ _ (.bool _)⟩
theorem s_ext {x:Opd} {vs:List V} {i:Nat} {u:V} {fr:Fr} (hu:vs[i]?=some u):LStp P G nt (.ext x i) [(x,.tup vs)] [] u ⟨[],[]⟩ fr fr:=by
 refine .pure fun U E H o c ac w ht hR hE hH=>?_
 generalize hop:o.op=op' at ht
 cases ht with
 | ext h1=>
  have e1:=ev_ok hR h1 hE.1
  generalize ha:ac.eval _=av at e1
  cases e1 with
  | tup _ cs hl h=>
   have hlt:i<cs.length:=by have:=(List.getElem?_eq_some_iff.1 hu).1;omega
   refine ⟨by simp,cs[i],?_,h i u _ hu (List.getElem?_eq_getElem hlt)⟩
   simp [execOp,hop,ha,Instr.extract,hlt]
theorem s_fldC {off sz:Nat} {x:Opd} {cs:List V} {u:V} {fr:Fr} (hu:cs[off]?=some u):LStp P G nt (.fld false off sz x) [(x,.agg cs)] [] u ⟨[],[]⟩ fr fr:=by
 refine .pure fun U E H o c ac w ht hR hE hH=>?_
 generalize hop:o.op=op' at ht
 generalize hag:false=ag at ht
 cases ht with
 | fld ht hf hu' hj h1=>
  have e1:=ev_ok hR h1 hE.1
  generalize ha:ac.eval _=av at e1
  cases e1 with
  | agg _ vs hl h h1=>
   have hlt:=(List.getElem?_eq_some_iff.1 hu).1
   rw [← hl] at hlt
   obtain ⟨v0,hv0⟩:∃ v0,vs[_]?=some v0:=⟨_,List.getElem?_eq_getElem hlt⟩
   refine ⟨by simp,v0,?_,h _ u _ hu hv0⟩
   simp [execOp,hop,ha,Instr.field,run_underlying ht,hf,asAgg,part,run_isAgg hu',← hag,hv0]
theorem s_idx {n:Nat} {x i:Opd} {cs:List V} {u:V} {k:IntKind} {p:Int} {fr:Fr} (h0:0≤p) (hn:p<n) (hu:cs[p.toNat]?=some u):LStp P G nt (.idx n x i) [(x,.agg cs),(i,.d (.int k p))] [] u ⟨[],[]⟩ fr fr:=by
 refine .pure fun U E H o c ac w ht hR hE hH=>?_
 generalize hop:o.op=op' at ht
 cases ht with
 | idx ht hj hu' hag h1 h2=>
  obtain ⟨j,hj,hsz⟩:=hj
  have e1:=ev_ok hR h1 hE.1
  have e2:=(ev_ok hR h2 hE.2.1).int_inv
  generalize ha:ac.eval _=av at e1
  cases e1 with
  | agg _ vs hl h h1=>
   have hlt:=(List.getElem?_eq_some_iff.1 hu).1
   rw [← hl] at hlt
   obtain ⟨v0,hv0⟩:∃ v0,vs[p.toNat]?=some v0:=⟨_,List.getElem?_eq_getElem hlt⟩
   refine ⟨by simp,v0,?_,h _ u _ hu hv0⟩
   have hb:(0:Int)≤p∧p<(n:Int):=⟨h0,hn⟩
   simp [execOp,hop,ha,e2,Instr.index,asIntOf,run_underlying ht,h0,hn,part,run_isAgg hu',hag,run_sizeOf hj,hsz,hv0]
theorem s_fldA {off sz:Nat} {x:Opd} {cs:List V} {fr:Fr}:LStp P G nt (.fld true off sz x) [(x,.agg cs)] [] (.agg ((cs.drop off).take sz)) ⟨[],[]⟩ fr fr:=by
 refine .pure fun U E H o c ac w ht hR hE hH=>?_
 generalize hop:o.op=op' at ht
 generalize hag:true=ag at ht
 cases ht with
 | @fld t0 fs0 i0 f0 u0 j0 x0 _ ht hf hu' hj h1=>
  have e1:=ev_ok hR h1 hE.1
  generalize ha:ac.eval _=av at e1
  cases e1 with
  | agg _ vs hl h h1=>
   refine ⟨by simp,.agg ((vs.drop f0.offset).take j0.size).toArray,?_,.agg _ _ (by simp [hl]) (fun i x v hx hv=>?_) (fun v hv=>h1 v (List.mem_of_mem_drop (List.mem_of_mem_take hv)))⟩
   ·simp [execOp,hop,ha,Instr.field,run_underlying ht,hf,asAgg,part,run_isAgg hu',← hag,run_sizeOf hj]
   ·rw [List.getElem?_take] at hx hv
    split at hx
    ·rename_i hlt
     rw [if_pos hlt] at hv
     rw [List.getElem?_drop] at hx hv
     exact h _ x v hx hv
    ·cases hx
theorem s_lenO {x:Opd} {r n:Nat} {fr:Fr}:LStp P G nt (.len x) [(x,.own r n)] [] (.d (.int .i64 n)) ⟨[],[]⟩ fr fr:=by
 refine .pure fun U E H o c ac w ht hR hE hH=>?_
 generalize hop:o.op=op' at ht
 cases ht with
 | len ht h1=>
  have e1:=ev_ok hR h1 hE.1
  generalize ha:ac.eval _=av at e1
  cases e1
  exact ⟨by simp,.int .i64 n,by simp [execOp,hop,resolve,invoke,builtin,Builtin.len_,ha,run_underlying ht,goInt],.d _ _ (.int _ _)⟩
theorem s_lenN {x:Opd} {fr:Fr}:LStp P G nt (.len x) [(x,.d .nilSl)] [] (.d (.int .i64 0)) ⟨[],[]⟩ fr fr:=by
 refine .pure fun U E H o c ac w ht hR hE hH=>?_
 generalize hop:o.op=op' at ht
 cases ht with
 | len ht h1=>
  have e1:=ev_ok hR h1 hE.1
  generalize ha:ac.eval _=av at e1
  cases e1 with | d _ _ h=>cases h;exact ⟨by simp,.int .i64 0,by simp [execOp,hop,resolve,invoke,builtin,Builtin.len_,ha,run_underlying ht,goInt],.d _ _ (.int _ _)⟩
theorem s_lenD {x:Opd} {es:Nat} {xs:List (List D)} {fr:Fr}:LStp P G nt (.len x) [(x,.d (.sl es xs))] [] (.d (.int .i64 xs.length)) ⟨[],[]⟩ fr fr:=by
 refine .pure fun U E H o c ac w ht hR hE hH=>?_
 generalize hop:o.op=op' at ht
 cases ht with
 | len ht h1=>
  have e1:=ev_ok hR h1 hE.1
  generalize ha:ac.eval _=av at e1
  cases e1 with | d _ _ h=>cases h;exact ⟨by simp,.int .i64 xs.length,by simp [execOp,hop,resolve,invoke,builtin,Builtin.len_,ha,run_underlying ht,goInt],.d _ _ (.int _ _)⟩
theorem s_lenS {x:Opd} {s:ByteArray} {fr:Fr}:LStp P G nt (.lenS x) [(x,.d (.str s))] [] (.d (.int .i64 s.size)) ⟨[],[]⟩ fr fr:=by
 refine .pure fun U E H o c ac w ht hR hE hH=>?_
 generalize hop:o.op=op' at ht
 cases ht with
 | lenS ht h1=>
  have e1:=(ev_ok hR h1 hE.1).str_inv
  exact ⟨by simp,.int .i64 s.size,by simp [execOp,hop,resolve,invoke,builtin,Builtin.len_,e1,run_underlying ht,goInt],.d _ _ (.int _ _)⟩
end
end Go.Abs
namespace Go.Abs
section
variable {P:Program} {G:Gl} {nt:Nat}
theorem heap_alloc_old (w:World) (o:Obj) (g:Nat) (h:g<w.heap.size):(w.alloc o).heap[g]?=w.heap[g]?:=by
 show (w.heap.push o)[g]?=_
 rw [Array.getElem?_push];simp [Nat.ne_of_lt h]
theorem heap_alloc_at (w:World) (o:Obj):(w.alloc o).heap[w.heap.size]?=some o:=by
 show (w.heap.push o)[w.heap.size]?=_
 simp
theorem Rel.new {c:Cx} {U:Nat→Prop} {E:En} {H:Hp} {fr:Fr} {a:Act} {w:World} (h:Rel G nt c U E H fr a w) (nm m:Nat) (b:Blk) (o:Obj) (hn:¬ U nm)
  (hB:HStep c H U (c.put nm w.heap.size m) (upd H nm b) (usOf [nm] U)→(∀ g,c.A g→(w.alloc o).heap[g]?=w.heap[g]?)→BRel (c.put nm w.heap.size m) (upd H nm b) (usOf [nm] U) (w.alloc o) w.heap.size m b) :
  HStep c H U (c.put nm w.heap.size m) (upd H nm b) (usOf [nm] U)∧Rel G nt (c.put nm w.heap.size m) (usOf [nm] U) E (upd H nm b) fr a (w.alloc o)∧Ext c H w (c.put nm w.heap.size m) (upd H nm b) (w.alloc o):=by
 have hs:HStep c H U (c.put nm w.heap.size m) (upd H nm b) (usOf [nm] U):=by
  have:=HStep.new h.h nm w.heap.size m b hn
  have e:(fun r=>U r∨r=nm)=usOf [nm] U:=by funext r;simp [usOf]
  rwa [e] at this
 have hA:∀ g,c.A g→(w.alloc o).heap[g]?=w.heap[g]?:=fun g hg=>heap_alloc_old w o g (h.h.Alt g hg)
 have:=h.h.put (w':=w.alloc o) nm w.heap.size m b hs rfl rfl rfl (by simp) (fun g0 hg0 _=>heap_alloc_old w o g0 hg0) (.inl (Nat.le_refl _)) (.inr (by simp)) (hB hs hA)
 exact ⟨hs,h.step hs this.1 this.2,this.2⟩
theorem s_box {T:Nat} {x:Opd} {u:V} {cs:List V} {nm:Nat} {fr:Fr} (hc:cellsOf u=some cs):LStp P G nt (.box T x) [(x,u)] [] (.ptr nm 0) ⟨[(nm,.var T cs)],[nm]⟩ fr fr:=by
 intro U E H o F c a w next Q ht hF hR hE hH hn k
 generalize hop:o.op=op at ht
 cases ht with
 | box h1=>
  have e1:=ev_ok hR h1 hE.1
  generalize ha:a.eval _=av at e1
  obtain ⟨c1,c2,c3⟩:=cells_ok e1 hc
  obtain ⟨hst,hR',hx⟩:=hR.new nm 0 (.var T cs) (.cells av.cells T) (hn nm (by simp)) (fun hs hA=>⟨av.cells,heap_alloc_at _ _,c1,fun j x cv hx hcv=>let ⟨p,q⟩:=c2 j x cv hx hcv;⟨p.mono hA hs,q⟩⟩)
  refine wp_value hF (cv:=.pointer (some ⟨w.heap.size,0,none⟩)) (by simp [hop]) ?_ (k _ _ (w.alloc (.cells av.cells T)) hst hR' (.ptr nm 0 T w.heap.size 0 cs (upd_same _ _ _) (upd_same _ _ _)) hx)
  simp [execOp,hop,ha,Instr.box,newVar,newRow]
theorem s_alloc {T:Nat} {zs:List D} {nm:Nat} {fr:Fr}:LStp P G nt (.alloc T zs) [] [] (.ptr nm 0) ⟨[(nm,.var T (zs.map .d))],[nm]⟩ fr fr:=by
 intro U E H o F c a w next Q ht hF hR hE hH hn k
 generalize hop:o.op=op at ht
 cases ht with
 | @alloc _ i z _ hi hz hs=>
  obtain ⟨hl,hr⟩:=trDs_ok hs
  obtain ⟨hst,hR',hx⟩:=hR.new nm 0 (.var T (zs.map .d)) (.cells z.cells T) (hn nm (by simp)) (fun hs hA=>⟨z.cells,heap_alloc_at _ _,by simpa using hl,fun j x cv hx hcv=>by
   simp only [List.getElem?_map,Option.map_eq_some_iff] at hx
   obtain ⟨y,hy,rfl⟩:=hx
   have hd:=hr c.A w j y cv hy (by simpa using hcv)
   exact ⟨.d _ _ (hd.mono (fun _ h=>h) hA),hd.oneCell⟩⟩)
  refine wp_value hF (cv:=.pointer (some ⟨w.heap.size,0,none⟩)) (by simp [hop]) ?_ (k _ _ (w.alloc (.cells z.cells T)) hst hR' (.ptr nm 0 T w.heap.size 0 _ (upd_same _ _ _) (upd_same _ _ _)) hx)
  simp [execOp,hop,Instr.alloc,zeroValue,typeInfo,hi,hz,newVar,newRow]
def partL {α:Type} (cs:List α) (off sz:Nat):List α:=bif off==0&&cs.length==sz then cs else (cs.drop off).take sz
theorem partL_eq {α:Type} (cs:List α) (off sz:Nat):partL cs off sz=(cs.drop off).take sz:=by
 unfold partL
 by_cases h:off=0∧cs.length=sz
 ·obtain ⟨rfl,rfl⟩:=h;simp
 ·have:(off==0&&cs.length==sz)=false:=by
   rcases Classical.em (off=0) with h1 | h1
   ·have:¬ cs.length=sz:=fun h2=>h ⟨h1,h2⟩
    simp [this]
   ·simp [h1]
  rw [this];rfl
theorem VRel.ptr_inv {c:Cx} {H:Hp} {U:Nat→Prop} {w:World} {r off:Nat} {cv:Value} {T:Nat} {cs:List V} (h:VRel c H U w (.ptr r off) cv) (hr:H r=some (.var T cs)) :
  ∃ g m,c.fm r=some (g,m)∧cv=.pointer (some ⟨g,off,none⟩):=by
 cases h with
 | ptr _ _ T g m cs hH hf=>exact ⟨g,m,hf,rfl⟩
theorem HRel.var {c:Cx} {H:Hp} {U:Nat→Prop} {fr:Fr} {w:World} (h:HRel G c H U fr w) {r T g m:Nat} {cs:List V} (hr:H r=some (.var T cs)) (hf:c.fm r=some (g,m)) :
  ∃ cur:Array Value,w.heap[g]?=some (.cells cur T (0,0))∧cur.size=cs.length∧∀ (j:Nat) (x:V) (cv:Value),cs[j]?=some x→cur[j]?=some cv→VRel c H U w x cv∧cv.oneCell'=true:=by
 obtain ⟨g',m',hf',hB⟩:=(h.pl r _ hr).resolve_right (fun hn=>by rw [hf] at hn;cases hn.1)
 rw [hf] at hf';cases hf'
 exact hB
theorem s_loadV {sz:Nat} {x:Opd} {r off T:Nat} {cs:List V} {u:V} {fr:Fr} (hu:cs[off]?=some u):LStp P G nt (.load false sz x) [(x,.ptr r off)] [(r,.var T cs)] u ⟨[],[]⟩ fr fr:=by
 refine .pure fun U E H o c ac w ht hR hE hH=>?_
 generalize hop:o.op=op at ht
 generalize hag:false=ag at ht
 cases ht with
 | load hu' hi h1=>
  obtain ⟨g,m,hf,ha⟩:=(ev_ok hR h1 hE.1).ptr_inv hH.1
  obtain ⟨cur,hg,hl,hc⟩:=hR.h.var hH.1 hf
  have hlt:=(List.getElem?_eq_some_iff.1 hu).1
  rw [← hl] at hlt
  refine ⟨by simp,cur[off],?_,(hc off u _ hu (Array.getElem?_eq_getElem hlt)).1⟩
  simp only [execOp,hop,ha,Sem.run_bind]
  rw [run_load_one hu' hag.symm (v:=cur[off]) (by rw [cell_at hg];exact Array.getElem?_eq_getElem hlt)];rfl
theorem s_loadA {sz:Nat} {x:Opd} {r off T:Nat} {cs:List V} {fr:Fr} (hu:off+sz≤cs.length):LStp P G nt (.load true sz x) [(x,.ptr r off)] [(r,.var T cs)] (.agg (partL cs off sz)) ⟨[],[]⟩ fr fr:=by
 refine .pure fun U E H o c ac w ht hR hE hH=>?_
 generalize hop:o.op=op at ht
 generalize hag:true=ag at ht
 cases ht with
 | @load t0 u0 i0 _ _ hu' hi h1=>
  obtain ⟨g,m,hf,ha⟩:=(ev_ok hR h1 hE.1).ptr_inv hH.1
  obtain ⟨cur,hg,hl,hc⟩:=hR.h.var hH.1 hf
  have hsub:∀ (j:Nat) v,((cur.toList.drop off).take i0.size)[j]?=some v→cur[off+j]?=some v∧j<i0.size:=fun j v hv=>by
   rw [List.getElem?_take] at hv
   split at hv
   ·rename_i hj;rw [List.getElem?_drop] at hv;exact ⟨by simpa using hv,hj⟩
   ·cases hv
  refine ⟨by simp,.agg ((cur.toList.drop off).take i0.size).toArray,?_,.agg _ _ (by simp [partL_eq,hl]) (fun j x v hx hv=>?_) (fun v hv=>?_)⟩
  ·simp only [execOp,hop,ha,Sem.run_bind]
   rw [run_load_agg hu' hag.symm hi ((cur.toList.drop off).take i0.size) (by simp;omega) (fun j v hv=>by
    rw [add_none,cell_at hg];exact (hsub j v hv).1)];rfl
  ·obtain ⟨h2,h3⟩:=hsub j v hv
   rw [partL_eq,List.getElem?_take,if_pos h3,List.getElem?_drop] at hx
   exact (hc _ x v hx h2).1
  ·obtain ⟨j,hj⟩:=List.getElem?_of_mem hv
   obtain ⟨h2,h3⟩:=hsub j v hj
   have hlt:off+j<cs.length:=by omega
   exact (hc _ _ v (List.getElem?_eq_getElem hlt) h2).2
theorem s_loadF {sz:Nat} {x:Opd} {row:List D} {off:Nat} {u:D} {fr:Fr} (hu:row[off]?=some u):LStp P G nt (.load false sz x) [(x,.fp row off)] [] (.d u) ⟨[],[]⟩ fr fr:=by
 refine .pure fun U E H o c ac w ht hR hE hH=>?_
 generalize hop:o.op=op at ht
 generalize hag:false=ag at ht
 cases ht with
 | load hu' hi h1=>
  have e1:=ev_ok hR h1 hE.1
  generalize ha:ac.eval _=av at e1
  cases e1 with
  | fp _ _ b o hA h=>
   obtain ⟨cv,hc,hd⟩:=h off u hu
   refine ⟨by simp,cv,?_,.d _ _ hd⟩
   simp only [execOp,hop,ha,Sem.run_bind]
   rw [run_load_one hu' hag.symm hc];rfl
theorem s_loadFA {sz:Nat} {x:Opd} {row:List D} {off:Nat} {fr:Fr} (hu:off+sz≤row.length):LStp P G nt (.load true sz x) [(x,.fp row off)] [] (.agg ((partL row off sz).map .d)) ⟨[],[]⟩ fr fr:=by
 refine .pure fun U E H o c ac w ht hR hE hH=>?_
 generalize hop:o.op=op at ht
 generalize hag:true=ag at ht
 cases ht with
 | @load t0 u0 i0 _ _ hu' hi h1=>
  have e1:=ev_ok hR h1 hE.1
  generalize ha:ac.eval _=av at e1
  cases e1 with
  | fp _ _ b o hA h=>
   have hex:∀ j:Nat,∃ cv,j<i0.size→w.cell? ⟨b,o+(off+j),none⟩=some cv∧∀ x,row[off+j]?=some x→DRel c.A w x cv:=fun j=>by
    by_cases hj:j<i0.size
    ·have hlt:off+j<row.length:=by omega
     obtain ⟨cv,hc,hd⟩:=h (off+j) _ (List.getElem?_eq_getElem hlt)
     exact ⟨cv,fun _=>⟨hc,fun x hx=>by rw [List.getElem?_eq_getElem hlt] at hx;cases hx;exact hd⟩⟩
    ·exact ⟨.nilFunc,fun h=>absurd h hj⟩
   obtain ⟨f,hf⟩:=Classical.axiomOfChoice hex
   have hget:∀ (j:Nat) v,((List.range i0.size).map f)[j]?=some v→j<i0.size∧v=f j:=fun j v hv=>by
    rw [List.getElem?_map] at hv
    by_cases hj:j<i0.size
    ·rw [List.getElem?_range hj] at hv;exact ⟨hj,by simpa using hv.symm⟩
    ·rw [List.getElem?_eq_none (by simpa using hj)] at hv;cases hv
   refine ⟨by simp,.agg ((List.range i0.size).map f).toArray,?_,.agg _ _ (by simp [partL_eq];omega) (fun j x v hx hv=>?_) (fun v hv=>?_)⟩
   ·simp only [execOp,hop,ha,Sem.run_bind]
    rw [run_load_agg hu' hag.symm hi ((List.range i0.size).map f) (by simp) (fun j v hv=>by
     obtain ⟨hj,rfl⟩:=hget j v hv
     rw [add_none,Nat.add_assoc];exact (hf j hj).1)];rfl
   ·obtain ⟨hj,rfl⟩:=hget j v hv
    rw [partL_eq,List.getElem?_map,List.getElem?_take,if_pos hj,List.getElem?_drop,Option.map_eq_some_iff] at hx
    obtain ⟨y,hy,rfl⟩:=hx
    exact .d _ _ ((hf j hj).2 y hy)
   ·obtain ⟨j,hj0⟩:=List.getElem?_of_mem hv
    obtain ⟨hj,rfl⟩:=hget j v hj0
    have hlt:off+j<row.length:=by omega
    exact ((hf j hj).2 _ (List.getElem?_eq_getElem hlt)).oneCell
def spl {α:Type} (cs:List α) (off:Nat) (vs:List α):List α:=cs.take off++vs++cs.drop (off+vs.length)
theorem s_store {sz:Nat} {x y:Opd} {r off T:Nat} {cs vs:List V} {u:V} {fr:Fr} (hu:cellsOf u=some vs) (hsz:vs.length=sz) (ho:off+sz≤cs.length) :
  LStp P G nt (.store sz x y) [(x,.ptr r off),(y,u)] [(r,.var T cs)] .undef ⟨[(r,.var T (spl cs off vs))],[]⟩ fr fr:=by
 intro U E H o F c a w next Q ht hF hR hE hH hn k
 generalize hop:o.op=op at ht
 cases ht with
 | @store t0 i0 _ _ _ _ hi h1 h2=>
  obtain ⟨g,m,hf,ha⟩:=(ev_ok hR h1 hE.1).ptr_inv hH.1
  obtain ⟨cur,hg,hl,hc⟩:=hR.h.var hH.1 hf
  have e2:=ev_ok hR h2 hE.2.1
  generalize hb:a.eval _=bv at e2
  obtain ⟨c1,c2,c3⟩:=cells_ok e2 hu
  have hrun:=run_storeAt (P:=P) hi hg (o:=off) (v:=bv) (by omega) (by omega) c3
  generalize hnew:(cur.toList.take off++bv.cells.toList++cur.toList.drop (off+bv.cells.toList.length)).toArray=new at hrun
  have hs:HStep c H U (c.put r g m) (upd H r (.var T (spl cs off vs))) U:=HStep.setVar hH.1 hf
  have hlen:new.size=(spl cs off vs).length:=by rw [← hnew];simp [spl];omega
  have hA:∀ g0,c.A g0→(w.setRow g new).heap[g0]?=w.heap[g0]?:=fun g0 h0=>setRow_other w g g0 new (fun e=>hR.h.nA _ _ _ _ hH.1 hf (e▸h0))
  have hB:BRel (c.put r g m) (upd H r (.var T (spl cs off vs))) U (w.setRow g new) g m (.var T (spl cs off vs)):=by
   refine ⟨new,setRow_heap w g cur new T (0,0) hg,hlen,fun j x cv hx hcv=>?_⟩
   have key:VRel c H U w x cv∧cv.oneCell'=true:=by
    have hcv':(cur.toList.take off++bv.cells.toList++cur.toList.drop (off+bv.cells.toList.length))[j]?=some cv:=by rw [← hnew] at hcv;simpa using hcv
    rw [spl,List.append_assoc] at hx
    rw [List.append_assoc] at hcv'
    have l1:(cur.toList.take off).length=off:=by simp;omega
    have l2:(cs.take off).length=off:=by simp;omega
    have l3:bv.cells.toList.length=vs.length:=by simpa using c1
    by_cases hj:j<off
    ·rw [List.getElem?_append_left (by omega),List.getElem?_take,if_pos hj] at hx hcv'
     exact hc j x cv hx (by simpa using hcv')
    ·rw [List.getElem?_append_right (by omega)] at hx hcv'
     rw [l1] at hcv';rw [l2] at hx
     by_cases hj2:j - off<vs.length
     ·rw [List.getElem?_append_left (by omega)] at hx hcv'
      exact c2 _ x cv hx (by simpa using hcv')
     ·rw [List.getElem?_append_right (by omega),List.getElem?_drop] at hx hcv'
      rw [l3] at hcv'
      exact hc _ x cv hx (by simpa using hcv')
   exact ⟨key.1.mono hA hs,key.2⟩
  have hp:=hR.h.put (w':=w.setRow g new) r g m (.var T (spl cs off vs)) hs rfl rfl rfl (by simp) (fun g0 hg0 hne=>setRow_other w g g0 new hne) (.inr ⟨_,m,hH.1,hf⟩) (hR.h.lt _ _ hH.1) hB
  have hu0:usOf ([]:List Nat) U=U:=usOf_nil U
  refine wp_skip' hF (by simp [hop]) (w':=w.setRow g new) ?_ (k (c.put r g m) undef _ ?_ ?_ .undef hp.2)
  ·simp only [execOp,hop,ha,hb,Sem.run_bind,hrun];rfl
  ·rw [hu0];exact hs
  ·rw [hu0];exact hR.step hs hp.1 hp.2
theorem s_faddrV {off0:Nat} {x:Opd} {r off T:Nat} {cs:List V} {fr:Fr}:LStp P G nt (.faddr off0 x) [(x,.ptr r off)] [(r,.var T cs)] (.ptr r (off+off0)) ⟨[],[]⟩ fr fr:=by
 refine .pure fun U E H o c ac w ht hR hE hH=>?_
 generalize hop:o.op=op at ht
 cases ht with
 | faddr ht hf hj hz h1=>
  obtain ⟨g,m,hfm,ha⟩:=(ev_ok hR h1 hE.1).ptr_inv hH.1
  refine ⟨by simp,.pointer (some ⟨g,off+_,none⟩),?_,.ptr r _ T g m cs hH.1 hfm⟩
  simp [execOp,hop,ha,Instr.fieldAt,run_underlying ht,hf,Instr.sureAddr,fieldPlace,run_sizeOf hj,hz,add_none]
theorem s_faddrF {off0:Nat} {x:Opd} {row:List D} {off:Nat} {fr:Fr}:LStp P G nt (.faddr off0 x) [(x,.fp row off)] [] (.fp row (off+off0)) ⟨[],[]⟩ fr fr:=by
 refine .pure fun U E H o c ac w ht hR hE hH=>?_
 generalize hop:o.op=op at ht
 cases ht with
 | @faddr _ _ _ f0 _ _ _ ht hf hj hz h1=>
  have e1:=ev_ok hR h1 hE.1
  generalize ha:ac.eval _=av at e1
  cases e1 with
  | fp _ _ b o hA h=>
   refine ⟨by simp,.pointer (some ⟨b,o+(off+f0.offset),none⟩),?_,.fp row _ b o hA h⟩
   simp [execOp,hop,ha,Instr.fieldAt,run_underlying ht,hf,Instr.sureAddr,fieldPlace,run_sizeOf hj,hz,add_none,Nat.add_assoc]
theorem s_faddrE {off0:Nat} {x:Opd} {r n i off:Nat} {fr:Fr}:LStp P G nt (.faddr off0 x) [(x,.eptr r n i off)] [] (.eptr r n i (off+off0)) ⟨[],[]⟩ fr fr:=by
 refine .pure fun U E H o c ac w ht hR hE hH=>?_
 generalize hop:o.op=op at ht
 cases ht with
 | @faddr _ _ _ f0 _ _ _ ht hf hj hz h1=>
  have e1:=ev_ok hR h1 hE.1
  generalize ha:ac.eval _=av at e1
  cases e1 with
  | eptr _ _ _ _ ad hr hn h=>
   refine ⟨by simp,.pointer (some (ad.add f0.offset)),?_,.eptr r n i _ _ hr hn fun T es xs hx hl=>?_⟩
   ·simp [execOp,hop,ha,Instr.fieldAt,run_underlying ht,hf,Instr.sureAddr,fieldPlace,run_sizeOf hj,hz]
   ·obtain ⟨g,m,hfm,rfl⟩:=h T es xs hx hl
    exact ⟨g,m,hfm,by rw [add_none,Nat.add_assoc]⟩
end
end Go.Abs
namespace Go.Abs
structure St where
 env:List (Nat×V)
 heap:List (Nat×Blk)
 nx:Nat
 fr:Fr
 dfs:List Nat
 base:Nat
structure IOper where
 dst:Option Nat
 guard:Option (Nat×Bool)
 op:IOp
 aft:List Nat
inductive ICode where
 | skip
 | reg (draw:Bool) (ops:List IOper)
 | seq (a b:ICode)
 | cond (c:Opd) (t e:ICode)
 | block (id:Nat) (c:ICode)
 | loop (c:ICode)
 | scope (c:ICode)
 | rfun (f:Opd) (ps:List Nat) (asg body:ICode)
 | exit (id:Nat)
 | ret
def TrGuard (ops:Array Oper):Option (Nat×Bool)→Option (Nat×Bool)→Prop
 | none,none=>True
 | some (j,b),some (t,b')=>b=b'∧(ops[j]?).bind (·.dst)=some t
 | _,_=>False
structure TrOper (P:Program) (nt:Nat) (ops:Array Oper) (o:Oper) (io:IOper):Prop where
 op:Tr P o.op io.op
 dst:o.dst=io.dst
 lt:∀ t,io.dst=some t→t<nt
 guard:TrGuard ops o.guard io.guard
inductive TrC (P:Program) (nt:Nat):Code→ICode→Prop where
 | skip:TrC P nt .skip .skip
 | reg {id:Nat} {ops:Array Oper} {iops:List IOper} (hl:ops.size=iops.length)
   (h:∀ (i:Nat) (o:Oper) (io:IOper),ops[i]?=some o→iops[i]?=some io→TrOper P nt ops o io):TrC P nt (.region id ops false) (.reg false iops)
 | regD {id:Nat} {ops:Array Oper} {iops:List IOper} (hl:ops.size=iops.length)
   (h:∀ (i:Nat) (o:Oper) (io:IOper),ops[i]?=some o→iops[i]?=some io→TrOper P nt ops o io∧∀ e∈o.after,Region.binds .any e=true→e.on∈io.aft)
   (h':∀ (i:Nat) (o:Oper) (io:IOper),ops[i]?=some o→iops[i]?=some io→∀ j∈io.aft,∃ e∈o.after,Region.binds .any e=true∧e.on=j)
   (hm:P.follows .mixedOrders=true):TrC P nt (.region id ops true) (.reg true iops)
 | seq {a b:Code} {a' b':ICode} (ha:TrC P nt a a') (hb:TrC P nt b b'):TrC P nt (.seq a b) (.seq a' b')
 | cond {c:Operand} {c':Opd} {a b:Code} {a' b':ICode} (hc:trO c=some c') (ha:TrC P nt a a') (hb:TrC P nt b b'):TrC P nt (.cond c a b) (.cond c' a' b')
 | block {id:Nat} {a:Code} {a':ICode} (ha:TrC P nt a a'):TrC P nt (.block id a) (.block id a')
 | loop {a:Code} {a':ICode} (ha:TrC P nt a a'):TrC P nt (.loop a) (.loop a')
 | scope {a:Code} {a':ICode} (ha:TrC P nt a a'):TrC P nt (.scope a) (.scope a')
 | rfun {f:Operand} {f':Opd} {ps:Array Tmp} {a b:Code} {a' b':ICode} (hf:trO f=some f') (hps:∀ p∈ps.toList,p<nt) (ha:TrC P nt a a') (hb:TrC P nt b b'):TrC P nt (.rangeFunc f ps a b) (.rfun f' ps.toList a' b')
 | exit {id:Nat}:TrC P nt (.exit id) (.exit id)
 | label {l:Nat}:TrC P nt (.label l) .skip
 | ret:TrC P nt .ret .ret
def DfRel (c:Cx) (H:Hp):List Nat→List Deferred→Prop
 | [],ds=>ds=[]
 | r::l,ds=>∃ g m ds',H r=some .dm∧c.fm r=some (g,m)∧ds={ target:=.collected g,args:=#[] }::ds'∧DfRel c H l ds'
theorem DfRel.mono {c c':Cx} {H H':Hp} {U U':Nat→Prop} (hs:HStep c H U c' H' U'):∀ {l:List Nat} {ds:List Deferred},DfRel c H l ds→DfRel c' H' l ds
 | [],_,h=>h
 | r::l,_,⟨g,m,ds',h1,h2,h3,h4⟩=>⟨g,m,ds',(hs.dm r h1).2,(hs.dm r h1).1.trans h2,h3,DfRel.mono hs h4⟩
structure RelS (G:Gl) (nt:Nat) (c:Cx) (σ:St) (a:Act) (w:World):Prop where
 R:Rel G nt c (fun r=>r<σ.nx) (look σ.env) (look σ.heap) σ.fr a w
 df:DfRel c (look σ.heap) σ.dfs a.defers
 base:σ.base≤σ.nx
structure HB (n:Nat) (c:Cx) (H:Hp) (c':Cx) (H':Hp):Prop where
 var:∀ r T cs,r<n→H r=some (.var T cs)→c'.fm r=c.fm r∧∃ cs',H' r=some (.var T cs')
 row:∀ r T es xs,r<n→H' r=some (.row T es xs)→∃ ys,H r=some (.row T es ys)∧ys.length≤xs.length∧(xs.length=ys.length→c'.fm r=c.fm r)
 mp:∀ r es,r<n→H r=some (.mp es)→c'.fm r=c.fm r∧∃ es',H' r=some (.mp es')
 dm:∀ r,r<n→H r=some .dm→c'.fm r=c.fm r∧H' r=some .dm
 arr:∀ r T cs,r<n→H' r=some (.arr T cs)→∃ cs0,H r=some (.arr T cs0)∧c'.fm r=c.fm r
theorem HB.refl (n:Nat) (c:Cx) (H:Hp):HB n c H c H:=
 ⟨fun r T cs _ h=>⟨rfl,cs,h⟩,fun r T es xs _ h=>⟨xs,h,Nat.le_refl _,fun _=>rfl⟩,fun r es _ h=>⟨rfl,es,h⟩,fun r _ h=>⟨rfl,h⟩,fun r T cs _ h=>⟨cs,h,rfl⟩⟩
theorem HB.trans {n:Nat} {c c' c'':Cx} {H H' H'':Hp} (h:HB n c H c' H') (k:HB n c' H' c'' H''):HB n c H c'' H'' where
 var:=fun r T cs hr h0=>let ⟨e,cs',h1⟩:=h.var r T cs hr h0;let ⟨e',cs'',h2⟩:=k.var r T cs' hr h1;⟨e'.trans e,cs'',h2⟩
 row:=fun r T es xs hr h2=>by
  obtain ⟨ys,h1,l1,e1⟩:=k.row r T es xs hr h2
  obtain ⟨zs,h0,l0,e0⟩:=h.row r T es ys hr h1
  exact ⟨zs,h0,by omega,fun e=>(e1 (by omega)).trans (e0 (by omega))⟩
 mp:=fun r es hr h0=>let ⟨e,cs',h1⟩:=h.mp r es hr h0;let ⟨e',cs'',h2⟩:=k.mp r cs' hr h1;⟨e'.trans e,cs'',h2⟩
 dm:=fun r hr h0=>let ⟨e,h1⟩:=h.dm r hr h0;let ⟨e',h2⟩:=k.dm r hr h1;⟨e'.trans e,h2⟩
 arr:=fun r T cs hr h2=>by
  obtain ⟨c1,h1,e1⟩:=k.arr r T cs hr h2
  obtain ⟨c0,h0,e0⟩:=h.arr r T c1 hr h1
  exact ⟨c0,h0,e1.trans e0⟩
theorem HB.of {n nx:Nat} {c c':Cx} {H H':Hp} {U':Nat→Prop} (hn:n≤nx) (h:HStep c H (fun r=>r<nx) c' H' U'):HB n c H c' H':=
 ⟨fun r T cs _ h0=>h.var r T cs h0,fun r T es xs hr h0=>h.row r T es xs (Nat.lt_of_lt_of_le hr hn) h0,fun r es _ h0=>h.mp r es h0,fun r _ h0=>h.dm r h0,fun r T cs hr h0=>h.arr r T cs (Nat.lt_of_lt_of_le hr hn) h0⟩
structure Went (c:Cx) (σ:St) (w:World) (c':Cx) (σ':St) (w':World):Prop where
 x:Ext c (look σ.heap) w c' (look σ'.heap) w'
 b:HB σ.base c (look σ.heap) c' (look σ'.heap)
 base:σ'.base=σ.base
theorem Went.refl (c:Cx) (σ:St) (w:World):Went c σ w c σ w:=⟨Ext.refl _ _ _,HB.refl _ _ _,rfl⟩
theorem Went.trans {c c' c'':Cx} {σ σ' σ'':St} {w w' w'':World} (h:Went c σ w c' σ' w') (k:Went c' σ' w' c'' σ'' w''):Went c σ w c'' σ'' w'':=
 ⟨h.x.trans k.x,h.b.trans (h.base▸k.b),k.base.trans h.base⟩
abbrev Post:=Exit→St→Prop
def Holds (G:Gl) (nt:Nat) (c:Cx) (σ:St) (w:World) (Q:Post):Exit→Act→World→Prop:=fun e a' w'=>
 ∃ σ' c',Q e σ'∧RelS G nt c' σ' a' w'∧Went c σ w c' σ' w'
def AW (P:Program) (G:Gl) (nt:Nat) (F:Fence) (ic:ICode) (Q:Post) (σ:St):Prop:=
 ∀ code,TrC P nt code ic→∀ c a w,RelS G nt c σ a w→code.wpIn F 0 P (Holds G nt c σ w Q) a w
structure SD where
 rd:List Nat
 rs:List Nat
 st:List Nat
 nw:List Nat
 fx:Bool
def Opd.tm:Opd→List Nat
 | .tmp t=>[t]
 | _=>[]
def gtm:Option (Nat×Bool)→List Nat
 | none=>[]
 | some (t,_)=>[t]
def tms:List (Opd×V)→List Nat
 | []=>[]
 | (x,_)::l=>x.tm++tms l
def sdOf (g:Option (Nat×Bool)) (xs:List (Opd×V)) (rs:List (Nat×Blk)) (e:Eff):SD:=⟨gtm g++tms xs,rs.map (·.1),e.st.map (·.1),e.nw,false⟩
def sdF (g:Option (Nat×Bool)) (xs:List (Opd×V)) (rs:List (Nat×Blk)) (e:Eff):SD:=⟨gtm g++tms xs,rs.map (·.1),e.st.map (·.1),e.nw,true⟩
def sdSkip (g:Option (Nat×Bool)):SD:=⟨gtm g,[],[],[],false⟩
def St.put (σ:St) (d:Option Nat) (v:V):St:=match d with | some t=>{ σ with env:=(t,v)::σ.env } | none=>σ
def St.app (σ:St) (d:Option Nat) (v:V) (e:Eff) (fr:Fr):St:=
 match d with
 | some t=>{ env:=(t,v)::σ.env,heap:=e.st++σ.heap,nx:=σ.nx+e.nw.length,fr:=fr,dfs:=σ.dfs,base:=σ.base }
 | none=>{ env:=σ.env,heap:=e.st++σ.heap,nx:=σ.nx+e.nw.length,fr:=fr,dfs:=σ.dfs,base:=σ.base }
theorem look_app (l:List (Nat×Blk)) (m:List (Nat×Blk)):look (l++m)=hpOf l (look m):=by
 induction l with
 | nil=>rfl
 | cons p l ih=>
  obtain ⟨r,b⟩:=p
  show look ((r,b)::(l++m))=_
  rw [look_upd,ih];rfl
def Wants (σ:St) (g:Option (Nat×Bool)):Prop:=
 match g with
 | none=>True
 | some (t,b)=>look σ.env t=some (.d (.bool b))
def Skips (σ:St) (g:Option (Nat×Bool)):Prop:=
 match g with
 | none=>False
 | some (t,b)=>look σ.env t=some (.d (.bool (!b)))∨look σ.env t=some .undef
inductive RunC (P:Program) (G:Gl) (nt:Nat) (K:St→List SD→Prop):List IOper→St→List SD→Prop where
 | nil {σ:St} {sds:List SD} (h:K σ sds):RunC P G nt K [] σ sds
 | step {σ:St} {sds:List SD} {o:IOper} {rest:List IOper} {xs:List (Opd×V)} {rs:List (Nat×Blk)} {v:V} {e:Eff} (h:LStp P G nt o.op xs rs v e σ.fr σ.fr)
   (hg:Wants σ o.guard) (hE:Evs G (look σ.env) xs) (hH:Rds (look σ.heap) rs) (hn:e.nw=List.range' σ.nx e.nw.length)
   (k:RunC P G nt K rest (σ.app o.dst v e σ.fr) (sds++[sdOf o.guard xs rs e])):RunC P G nt K (o::rest) σ sds
 | stepF {σ:St} {sds:List SD} {o:IOper} {rest:List IOper} {xs:List (Opd×V)} {rs:List (Nat×Blk)} {v:V} {e:Eff} {fr:Fr} (h:LStp P G nt o.op xs rs v e σ.fr fr)
   (hg:Wants σ o.guard) (hE:Evs G (look σ.env) xs) (hH:Rds (look σ.heap) rs) (hn:e.nw=List.range' σ.nx e.nw.length)
   (k:RunC P G nt K rest (σ.app o.dst v e fr) (sds++[sdF o.guard xs rs e])):RunC P G nt K (o::rest) σ sds
 | skip {σ:St} {sds:List SD} {o:IOper} {rest:List IOper} (hg:Skips σ o.guard) (k:RunC P G nt K rest (σ.put o.dst .undef) (sds++[sdSkip o.guard])):RunC P G nt K (o::rest) σ sds
 | know {σ:St} {sds:List SD} {rest:List IOper} {t:Nat} {v:V} (h:look σ.env t=some v) (k:RunC P G nt K rest { env:=(t,v)::σ.env,heap:=σ.heap,nx:=σ.nx,fr:=σ.fr,dfs:=σ.dfs,base:=σ.base } sds):RunC P G nt K rest σ sds
def St.pt (σ:St) (t:Nat) (v:V):St:={ env:=(t,v)::σ.env,heap:=σ.heap,nx:=σ.nx,fr:=σ.fr,dfs:=σ.dfs,base:=σ.base }
theorem us_range {nx:Nat} {nw:List Nat} (hn:nw=List.range' nx nw.length):usOf nw (fun r=>r<nx)=fun r=>r<nx+nw.length:=by
 funext r
 simp only [usOf,eq_iff_iff]
 rw [hn,List.length_range',List.mem_range']
 constructor
 ·rintro (h | ⟨i,hi,rfl⟩)<;>omega
 ·intro h
  by_cases h':r<nx
  ·exact .inl h'
  ·exact .inr ⟨r - nx,by omega,by omega⟩
theorem fresh_range {nx:Nat} {nw:List Nat} (hn:nw=List.range' nx nw.length):∀ r∈nw,¬ r<nx:=by
 intro r hr
 rw [hn,List.mem_range'] at hr
 obtain ⟨i,hi,rfl⟩:=hr
 omega
section
variable {P:Program} {G:Gl} {nt:Nat} {F:Fence}
theorem RelS.app {σ:St} {c c':Cx} {a:Act} {w w':World} (h:RelS G nt c σ a w) {e:Eff} {fr:Fr} {d:Option Nat} {v:V} {cv:Value} (hd:∀ t,d=some t→t<nt) (hn:e.nw=List.range' σ.nx e.nw.length)
  (hs:HStep c (look σ.heap) (fun r=>r<σ.nx) c' (hpOf e.st (look σ.heap)) (usOf e.nw (fun r=>r<σ.nx)))
  (hR:Rel G nt c' (usOf e.nw (fun r=>r<σ.nx)) (look σ.env) (hpOf e.st (look σ.heap)) fr a w') (hv:VRel c' (hpOf e.st (look σ.heap)) (usOf e.nw (fun r=>r<σ.nx)) w' v cv) :
  RelS G nt c' (σ.app d v e fr) (a.put d cv) w':=by
 have hp:=hR.put (d:=d) hd hv
 rw [us_range hn] at hp
 refine ⟨?_,?_,?_⟩
 ·cases d with
  | none=>simpa [St.app,look_app,putE] using hp
  | some t=>simpa [St.app,look_app,putE,look_upd] using hp
 ·have hdf:=h.df.mono hs
  cases d with
  | none=>simpa [St.app,look_app,Act.put] using hdf
  | some t=>simpa [St.app,look_app,Act.put] using hdf
 ·have:=h.base
  cases d with
  | none=>exact Nat.le_trans this (Nat.le_add_right _ _)
  | some t=>exact Nat.le_trans this (Nat.le_add_right _ _)
theorem RelS.put {σ:St} {c:Cx} {a:Act} {w:World} (h:RelS G nt c σ a w) {d:Option Nat} {v:V} {cv:Value} (hd:∀ t,d=some t→t<nt) (hv:VRel c (look σ.heap) (fun r=>r<σ.nx) w v cv) :
  RelS G nt c (σ.put d v) (a.put d cv) w:=by
 have hp:=h.R.put (d:=d) hd hv
 refine ⟨?_,?_,?_⟩
 ·cases d with
  | none=>exact hp
  | some t=>simpa [St.put,putE,look_upd] using hp
 ·cases d with
  | none=>exact h.df
  | some t=>exact h.df
 ·cases d with
  | none=>exact h.base
  | some t=>exact h.base
theorem wanted_of {ops:Array Oper} {o:Oper} {io:IOper} {σ:St} {c:Cx} {a:Act} {w:World} (h:RelS G nt c σ a w) (ht:TrOper P nt ops o io) (hg:Wants σ io.guard):Region.wanted o (yielded ops a.tmps)=true:=by
 have hgd:=ht.guard
 unfold Region.wanted
 cases h1:o.guard with
 | none=>rfl
 | some p=>
  obtain ⟨j,b⟩:=p
  cases h2:io.guard with
  | none=>rw [h1,h2] at hgd;exact hgd.elim
  | some q=>
   obtain ⟨t,b'⟩:=q
   rw [h1,h2] at hgd
   obtain ⟨rfl,hj⟩:=hgd
   rw [h2] at hg
   obtain ⟨cv,hc,hv⟩:=h.R.env t _ hg
   have:=hv.bool_inv;subst this
   simp [yielded,hj,hc]
theorem unwanted_of {ops:Array Oper} {o:Oper} {io:IOper} {σ:St} {c:Cx} {a:Act} {w:World} (h:RelS G nt c σ a w) (ht:TrOper P nt ops o io) (hg:Skips σ io.guard):Region.wanted o (yielded ops a.tmps)=false:=by
 have hgd:=ht.guard
 unfold Region.wanted
 cases h2:io.guard with
 | none=>rw [h2] at hg;exact hg.elim
 | some q=>
  obtain ⟨t,b'⟩:=q
  cases h1:o.guard with
  | none=>rw [h1,h2] at hgd;exact hgd.elim
  | some p=>
   obtain ⟨j,b⟩:=p
   rw [h1,h2] at hgd
   obtain ⟨rfl,hj⟩:=hgd
   rw [h2] at hg
   rcases hg with hg | hg
   ·obtain ⟨cv,hc,hv⟩:=h.R.env t _ hg
    have:=hv.bool_inv;subst this
    simp [yielded,hj,hc]
   ·obtain ⟨cv,hc,hv⟩:=h.R.env t _ hg
    cases hv
    simp [yielded,hj,hc]
theorem RelS.know {σ:St} {c:Cx} {a:Act} {w:World} (h:RelS G nt c σ a w) {t:Nat} {v:V} (hv:look σ.env t=some v):RelS G nt c (σ.pt t v) a w:=
 ⟨⟨h.R.nt,fun t' v' h'=>by
  simp only [St.pt] at h'
  rw [look_cons] at h'
  by_cases e:t=t'
  ·subst e;rw [if_pos rfl] at h';cases h';exact h.R.env _ _ hv
  ·rw [if_neg e] at h';exact h.R.env _ _ h',h.R.h⟩,h.df,h.base⟩
theorem run_text (hF:FOk F) {ops:Array Oper} {K:St→List SD→Prop} {c0:Cx} {σ0:St} {w0:World} {Q:Exit→Act→World→Prop}
  (hQ:∀ σ sds c a w,K σ sds→RelS G nt c σ a w→Went c0 σ0 w0 c σ w→Q .normal a w) :
  ∀ {rest:List IOper} {σ:St} {sds:List SD},RunC P G nt K rest σ sds→∀ (i:Nat) (c:Cx) (a:Act) (w:World),i+rest.length=ops.size→(∀ (j:Nat) (o:Oper) (io:IOper),ops[i+j]?=some o→rest[j]?=some io→TrOper P nt ops o io) →
   RelS G nt c σ a w→Went c0 σ0 w0 c σ w→wpOpsIn F 0 P ops Q (List.range' i rest.length) a w:=by
 intro rest σ sds h
 induction h with
 | nil h=>intro i c a w _ _ hR hx;exact hQ _ _ _ _ _ h hR hx
 | @step σ sds o rest xs rs v e h hg hE hH hn k ih=>
  intro i c a w hl ht hR hx
  have hlt:i<ops.size:=by simp at hl;omega
  have hto:=ht 0 (ops[i]) o (by simp [hlt]) (by simp)
  rw [List.length_cons,List.range'_succ,wpOpsIn,Array.getElem?_eq_getElem hlt]
  simp only [wanted_of hR hto hg,if_true]
  refine h _ _ _ _ F c a w _ Q hto.op hF hR.R hE hH (fresh_range hn) fun c' cv w' hs hR' hv hx'=>?_
  rw [hto.dst]
  refine ih (i+1) c' _ w' (by simp at hl;omega) (fun j o io ho hio=>ht (j+1) o io (by rw [← ho];congr 1;omega) (by simpa using hio)) (hR.app hto.lt hn hs hR' hv) ?_
  have hh:look (σ.app o.dst v e σ.fr).heap=hpOf e.st (look σ.heap):=by cases o.dst<;>simp [St.app,look_app]
  exact hx.trans ⟨by rw [hh];exact hx',by rw [hh];exact HB.of hR.base hs,by cases o.dst<;>rfl⟩
 | @stepF σ sds o rest xs rs v e fr h hg hE hH hn k ih=>
  intro i c a w hl ht hR hx
  have hlt:i<ops.size:=by simp at hl;omega
  have hto:=ht 0 (ops[i]) o (by simp [hlt]) (by simp)
  rw [List.length_cons,List.range'_succ,wpOpsIn,Array.getElem?_eq_getElem hlt]
  simp only [wanted_of hR hto hg,if_true]
  refine h _ _ _ _ F c a w _ Q hto.op hF hR.R hE hH (fresh_range hn) fun c' cv w' hs hR' hv hx'=>?_
  rw [hto.dst]
  refine ih (i+1) c' _ w' (by simp at hl;omega) (fun j o io ho hio=>ht (j+1) o io (by rw [← ho];congr 1;omega) (by simpa using hio)) (hR.app hto.lt hn hs hR' hv) ?_
  have hh:look (σ.app o.dst v e fr).heap=hpOf e.st (look σ.heap):=by cases o.dst<;>simp [St.app,look_app]
  exact hx.trans ⟨by rw [hh];exact hx',by rw [hh];exact HB.of hR.base hs,by cases o.dst<;>rfl⟩
 | @skip σ sds o rest hg k ih=>
  intro i c a w hl ht hR hx
  have hlt:i<ops.size:=by simp at hl;omega
  have hto:=ht 0 (ops[i]) o (by simp [hlt]) (by simp)
  rw [List.length_cons,List.range'_succ,wpOpsIn,Array.getElem?_eq_getElem hlt]
  simp only [unwanted_of hR hto hg]
  refine ⟨fun f _=>hF.fn f,?_⟩
  rw [hto.dst]
  refine ih (i+1) c _ w (by simp at hl;omega) (fun j o io ho hio=>ht (j+1) o io (by rw [← ho];congr 1;omega) (by simpa using hio)) (hR.put hto.lt .undef) ?_
  exact hx.trans (by cases o.dst<;>exact ⟨Ext.refl _ _ _,HB.refl _ _ _,rfl⟩)
 | know h k ih=>
  intro i c a w hl ht hR hx
  exact ih i c a w hl ht (hR.know h) (hx.trans ⟨Ext.refl _ _ _,HB.refl _ _ _,rfl⟩)
theorem AW.reg (hF:FOk F) {ops:List IOper} {Q:Post} {σ:St} (h:RunC P G nt (fun σ' _=>Q .normal σ') ops σ []):AW P G nt F (.reg false ops) Q σ:=by
 intro code ht c a w hR
 cases ht with
 | @reg id cops _ hl ht=>
  refine wpIn_region ?_
  rw [List.range_eq_range',hl]
  exact run_text hF (fun σ' sds c' a' w' hk hR' hx=>⟨σ',c',hk,hR',hx⟩) h 0 c a w (by omega) (fun j o io ho hio=>ht j o io (by simpa using ho) hio) hR (Went.refl _ _ _)
theorem AW.mono {ic:ICode} {Q Q':Post} {σ:St} (h:AW P G nt F ic Q σ) (hq:∀ e σ',Q e σ'→Q' e σ'):AW P G nt F ic Q' σ:=
 fun code ht c a w hR=>wpIn_mono (h code ht c a w hR) fun e a' w' ⟨σ',c',hq',r⟩=>⟨σ',c',hq e σ' hq',r⟩
def thenQ (K:St→Prop) (Q:Post):Post:=fun e σ=>match e with | .normal=>K σ | e=>Q e σ
theorem AW.seq {x y:ICode} {Q:Post} {σ:St} (h:AW P G nt F x (thenQ (AW P G nt F y Q) Q) σ):AW P G nt F (.seq x y) Q σ:=by
 intro code ht c a w hR
 cases ht with
 | seq hx hy=>
  refine wpIn_seq (wpIn_mono (h _ hx c a w hR) ?_)
  rintro e a1 w1 ⟨σ1,c1,hq,hR1,hx1⟩
  cases e with
  | normal=>
   refine wpIn_mono (hq _ hy c1 a1 w1 hR1) ?_
   rintro e a2 w2 ⟨σ2,c2,hq2,hR2,hx2⟩
   exact ⟨σ2,c2,hq2,hR2,hx1.trans hx2⟩
  | _=>exact ⟨σ1,c1,hq,hR1,hx1⟩
theorem AW.skip {Q:Post} {σ:St} (h:Q .normal σ):AW P G nt F .skip Q σ:=by
 intro code ht c a w hR
 cases ht with
 | skip=>exact wpIn_skip ⟨σ,c,h,hR,Went.refl _ _ _⟩
 | label=>exact wpIn_label ⟨σ,c,h,hR,Went.refl _ _ _⟩
def noGo (Q:Post):Post:=fun e σ=>match e with | .goto _=>False | e=>Q e σ
theorem AW.scope {x:ICode} {Q:Post} {σ:St} (h:AW P G nt F x (noGo Q) σ):AW P G nt F (.scope x) Q σ:=by
 intro code ht c a w hR
 cases ht with
 | @scope cx _ hx=>
  intro b k cs hro hb hr
  obtain ⟨e,a₁,w₁,⟨σ1,c1,hq,hR1,hx1⟩,harr⟩:=h _ hx c a w hR b (.inScope cx::k) cs hro hb hr
  have h0:(lone (b.atR a (.code (.scope cx)::k)) cs w).fenced P F:=fenced_calm hb hr rfl
  have s1:step P (lone (b.atR a (.code (.scope cx)::k)) cs w)=.next (lone (b.atR a (.code cx::.inScope cx::k)) cs w):=step_lone_go (by simp [stepG,stepG.exec,Frame.atR])
  have s2:step P (lone (b.atR a₁ (.inScope cx::k)) cs w₁)=.next (lone (b.atR a₁ k) cs w₁):=step_lone_go (by simp [stepG,stepG.exec,Frame.atR])
  cases e with
  | normal=>exact ⟨.normal,a₁,w₁,⟨σ1,c1,hq,hR1,hx1⟩,.head h0 s1 (StepsIn.trans harr (.one (fenced_calm hb hr rfl) s2))⟩
  | exit id=>
   have hx':exitTo id (.inScope cx::k)=exitTo id k:=by simp [exitTo]
   exact ⟨.exit id,a₁,w₁,⟨σ1,c1,hq,hR1,hx1⟩,fun k' hk=>.head h0 s1 (harr.1 k' (by rw [hx'];exact hk)),fun hr' hk=>let ⟨k₁,h1,h2⟩:=harr.2 hr' (by rw [hx'];exact hk);⟨k₁,h1,.head h0 s1 h2⟩⟩
  | goto l=>exact hq.elim
  | ret=>exact ⟨_,a₁,w₁,⟨σ1,c1,hq,hR1,hx1⟩,.of_steps (.one h0 s1) harr⟩
  | panic ch=>exact ⟨_,a₁,w₁,⟨σ1,c1,hq,hR1,hx1⟩,.of_steps (.one h0 s1) harr⟩
  | outgrown=>exact ⟨_,a₁,w₁,⟨σ1,c1,hq,hR1,hx1⟩,.of_steps (.one h0 s1) harr⟩
theorem AW.exit {id:Nat} {Q:Post} {σ:St} (h:Q (.exit id) σ):AW P G nt F (.exit id) Q σ:=by
 intro code ht c a w hR
 cases ht
 exact wpIn_exit ⟨σ,c,h,hR,Went.refl _ _ _⟩
theorem AW.ret {Q:Post} {σ:St} (h:Q .ret σ):AW P G nt F .ret Q σ:=by
 intro code ht c a w hR
 cases ht
 exact wpIn_ret ⟨σ,c,h,hR,Went.refl _ _ _⟩
theorem AW.cond {x:Opd} {t e:ICode} {Q:Post} {σ:St} {b:Bool} (hx:ev G (look σ.env) x=some (.d (.bool b))) (h1:b=true→AW P G nt F t Q σ) (h2:b=false→AW P G nt F e Q σ):AW P G nt F (.cond x t e) Q σ:=by
 intro code ht c a w hR
 cases ht with
 | cond hc ha hb=>
  have hv:=(ev_ok hR.R hc hx).bool_inv
  cases b with
  | true=>exact wpIn_cond_true hv (h1 rfl _ ha c a w hR)
  | false=>exact wpIn_cond_false hv (h2 rfl _ hb c a w hR)
theorem AW.condT {x:Opd} {t e:ICode} {Q:Post} {σ:St} (hx:ev G (look σ.env) x=some (.d (.bool true))) (h:AW P G nt F t Q σ):AW P G nt F (.cond x t e) Q σ:=
 .cond hx (fun _=>h) (fun h=>by cases h)
theorem AW.condF {x:Opd} {t e:ICode} {Q:Post} {σ:St} (hx:ev G (look σ.env) x=some (.d (.bool false))) (h:AW P G nt F e Q σ):AW P G nt F (.cond x t e) Q σ:=
 .cond hx (fun h=>by cases h) (fun _=>h)
def blockQ (id:Nat) (Q:Post):Post:=fun e σ=>match e with | .exit id'=>bif Nat.beq id' id then Q .normal σ else Q (.exit id') σ | e=>Q e σ
theorem AW.block {id:Nat} {x:ICode} {Q:Post} {σ:St} (h:AW P G nt F x (blockQ id Q) σ):AW P G nt F (.block id x) Q σ:=by
 intro code ht c a w hR
 cases ht with
 | block ha=>
  refine wpIn_block (wpIn_mono (h _ ha c a w hR) ?_)
  rintro e a1 w1 ⟨σ1,c1,hq,hR1,hx1⟩
  cases e with
  | exit id'=>
   by_cases e:id'=id
   ·subst e
    simp only [blockQ,Nat.beq_refl,cond_true] at hq
    simp only [Exit.inBlock,if_true]
    exact ⟨σ1,c1,hq,hR1,hx1⟩
   ·have hb:Nat.beq id' id=false:=by
     cases hb:Nat.beq id' id with
     | true=>exact absurd (Nat.eq_of_beq_eq_true hb) e
     | false=>rfl
    simp only [blockQ,hb,cond_false] at hq
    simp only [Exit.inBlock,if_neg e]
    exact ⟨σ1,c1,hq,hR1,hx1⟩
  | _=>exact ⟨σ1,c1,hq,hR1,hx1⟩
def V.okR (n:Nat) (dom:Nat→Bool):V→Bool
 | .undef=>true
 | .d _=>true
 | .fp _ _=>true
 | .ptr r _=>dom r
 | .vsl r _ _ _=>dom r
 | .asl r _=>Nat.blt r n
 | .aptr r _=>Nat.blt r n
 | .eptr r _ _ _=>Nat.blt r n
 | .own r _=>Nat.blt r n
 | .map r=>dom r
 | .clo _ first caps=>okRs n dom first&&okRs n dom caps
 | .wmp _=>true
 | .yld=>true
 | .opq=>true
 | .fsl _ _=>true
 | .fmp _=>true
 | .agg cs=>okRs n dom cs
 | .tup cs=>okRs n dom cs
where okRs (n:Nat) (dom:Nat→Bool):List V→Bool
 | []=>true
 | v::vs=>V.okR n dom v&&okRs n dom vs
def Blk.okR (n:Nat) (dom:Nat→Bool):Blk→Bool
 | .var _ cs=>V.okR.okRs n dom cs
 | .arr _ cs=>V.okR.okRs n dom cs
 | _=>true
structure St.Sub (σ' σ:St):Prop where
 nx:σ'.nx≤σ.nx
 env:∀ t v,look σ'.env t=some v→look σ.env t=some v∧v.okR σ'.nx (fun r=>(look σ'.heap r).isSome)=true
 heap:∀ r b,look σ'.heap r=some b→look σ.heap r=some b∧r<σ'.nx∧b.okR σ'.nx (fun r=>(look σ'.heap r).isSome)=true
 fr:σ'.fr=σ.fr
 dfs:σ'.dfs=σ.dfs
 dfsin:∀ r∈σ'.dfs,look σ'.heap r=some .dm
 base:σ'.base=σ.base
 bnx:σ.base≤σ'.nx
 keep:∀ r b,r<σ.base→look σ.heap r=some b→look σ'.heap r=some b
theorem VRel.sub {c:Cx} {H H':Hp} {n n':Nat} {w:World} {x:V} {v:Value} (h:VRel c H (fun r=>r<n) w x v) (hH:∀ r b,H' r=some b→H r=some b) (hb:x.okR n' (fun r=>(H' r).isSome)=true) :
  VRel c H' (fun r=>r<n') w x v:=by
 have hbs:∀ (cs:List V) (i:Nat) x,V.okR.okRs n' (fun r=>(H' r).isSome) cs=true→cs[i]?=some x→x.okR n' (fun r=>(H' r).isSome)=true:=by
  intro cs
  induction cs with
  | nil=>intro i x _ hx;simp at hx
  | cons y ys ih=>
   intro i x hb hx
   simp only [V.okR.okRs,Bool.and_eq_true] at hb
   cases i with
   | zero=>simp at hx;subst hx;exact hb.1
   | succ i=>exact ih i x hb.2 (by simpa using hx)
 have hsome:∀ r,(H' r).isSome=true→∃ b,H' r=some b:=fun r h=>Option.isSome_iff_exists.1 h
 induction h with
 | undef=>exact .undef
 | d x v h=>exact .d x v h
 | fp row off b o hA h=>exact .fp row off b o hA h
 | ptr r off T g m cs hH0 hf=>
  obtain ⟨b,hb'⟩:=hsome r (by simpa [V.okR] using hb)
  have:=(hH r b hb').symm.trans hH0;cases this
  exact .ptr r off T g m cs hb' hf
 | vsl r off n0 k T g m cs hb0 hH0 hf=>
  obtain ⟨b,hb'⟩:=hsome r (by simpa [V.okR] using hb)
  have:=(hH r b hb').symm.trans hH0;cases this
  exact .vsl r off n0 k T g m cs hb0 hb' hf
 | asl r n0 ad hr hb0 h=>
  have hb':r<n':=by
   have:=hb
   simp [V.okR,Nat.blt] at this
   omega
  exact .asl r n0 ad hb' hb0 (fun T cs hx=>h T cs (hH _ _ hx))
 | aptr r off ad hr h=>
  have hb':r<n':=by
   have:=hb
   simp [V.okR,Nat.blt] at this
   omega
  exact .aptr r off ad hb' (fun T cs hx=>h T cs (hH _ _ hx))
 | eptr r n0 i off ad hr hn h=>
  have hb':r<n':=by
   have:=hb
   simp [V.okR,Nat.blt] at this
   omega
  exact .eptr r n0 i off ad hb' (fun T es xs hx=>hn T es xs (hH _ _ hx)) (fun T es xs hx=>h T es xs (hH _ _ hx))
 | own r n0 a m hr hb0 hn h=>
  have hb':r<n':=by
   have:=hb
   simp [V.okR,Nat.blt] at this
   omega
  exact .own r n0 a m hb' hb0 (fun T es xs hx=>hn T es xs (hH _ _ hx)) (fun T es xs hx=>h T es xs (hH _ _ hx))
 | map r g m es hH0 hf=>
  obtain ⟨b,hb'⟩:=hsome r (by simpa [V.okR] using hb)
  have:=(hH r b hb').symm.trans hH0;cases this
  exact .map r g m es hb' hf
 | clo f first caps fs cs hf hc h1 h2 ih1 ih2=>
  simp only [V.okR,Bool.and_eq_true] at hb
  exact .clo f first caps fs cs hf hc (fun i x v hx hv=>ih1 i x v hx hv (hbs _ i x hb.1 hx)) (fun i x v hx hv=>ih2 i x v hx hv (hbs _ i x hb.2 hx))
 | wmp g=>exact .wmp g
 | yld=>exact .yld
 | opq v h=>exact .opq v h
 | fsl es xs a h=>exact .fsl es xs a h
 | fmp es g en clock hA0 hg hsz hen=>exact .fmp es g en clock hA0 hg hsz hen
 | agg cs vs hl h h1 ih=>simp only [V.okR] at hb;exact .agg cs vs hl (fun i x v hx hv=>ih i x v hx hv (hbs _ i x hb hx)) h1
 | tup cs vs hl h ih=>simp only [V.okR] at hb;exact .tup cs vs hl (fun i x v hx hv=>ih i x v hx hv (hbs _ i x hb hx))
theorem okRs_get {n:Nat} {dom:Nat→Bool}:∀ (cs:List V) (i:Nat) x,V.okR.okRs n dom cs=true→cs[i]?=some x→x.okR n dom=true:=by
 intro cs
 induction cs with
 | nil=>intro i x _ hx;simp at hx
 | cons y ys ih=>
  intro i x hb hx
  simp only [V.okR.okRs,Bool.and_eq_true] at hb
  cases i with
  | zero=>simp at hx;subst hx;exact hb.1
  | succ i=>exact ih i x hb.2 (by simpa using hx)
theorem RelS.sub {σ σ':St} {c:Cx} {a:Act} {w:World} (h:RelS G nt c σ a w) (hs:σ'.Sub σ):RelS G nt c σ' a w∧Went c σ w c σ' w:=by
 have hH:∀ r b,look σ'.heap r=some b→look σ.heap r=some b:=fun r b hb=>(hs.heap r b hb).1
 refine ⟨⟨⟨h.R.nt,fun t v hv=>?_,?_⟩,?_,by rw [hs.base];exact hs.bnx⟩,⟨⟨rfl,rfl,rfl,Nat.le_refl _,rfl,fun _ _ _ _=>rfl,fun r b g m hr hf=>.inr (.inr ⟨r,b,m,hH _ _ hr,hf⟩),fun _ h=>h,fun _ h=>.inl h,fun _ h=>.inr (.inl h)⟩,
  ⟨fun r T cs hr h0=>⟨rfl,cs,hs.keep r _ hr h0⟩,fun r T es xs hr h0=>⟨xs,hH _ _ h0,Nat.le_refl _,fun _=>rfl⟩,fun r es hr h0=>⟨rfl,es,hs.keep r _ hr h0⟩,fun r hr h0=>⟨rfl,hs.keep r _ hr h0⟩,fun r T cs hr h0=>⟨cs,hH _ _ h0,rfl⟩⟩,hs.base⟩⟩
 ·obtain ⟨h1,h2⟩:=hs.env t v hv
  obtain ⟨cv,h3,h4⟩:=h.R.env t v h1
  exact ⟨cv,h3,h4.sub hH h2⟩
 ·have hh:=h.R.h
  refine ⟨fun r b hr=>(hs.heap r b hr).2.1,fun r b hr=>?_,fun r r' b b' g m m' h1 h2 h3 h4=>hh.inj r r' b b' g m m' (hH _ _ h1) (hH _ _ h2) h3 h4,fun r b g m h1 h2=>hh.nA r b g m (hH _ _ h1) h2,fun r b g m h1 h2=>hh.nO r b g m (hH _ _ h1) h2,hh.AO,hh.Alt,hh.Olt,by rw [hs.fr];exact hh.fr,hh.gl⟩
  obtain ⟨h1,h2,h3⟩:=hs.heap r b hr
  refine (hh.pl r b h1).imp (fun ⟨g,m,hf,hB⟩=>⟨g,m,hf,?_⟩) id
  cases b with
  | var T cs=>
   obtain ⟨cur,p1,p2,p3⟩:=hB
   exact ⟨cur,p1,p2,fun j x cv hx hcv=>let ⟨q1,q2⟩:=p3 j x cv hx hcv;⟨q1.sub hH (okRs_get _ j x h3 hx),q2⟩⟩
  | row T es xs=>exact hB
  | mp es=>exact hB
  | dm=>exact hB
  | dead=>exact hB
  | arr T cs=>
   obtain ⟨cur,p1,p2,p3⟩:=hB
   exact ⟨cur,p1,p2,fun j x cv hx hcv=>let ⟨q1,q2⟩:=p3 j x cv hx hcv;⟨q1.sub hH (okRs_get _ j x h3 hx),q2⟩⟩
 ·have:∀ {l:List Nat} {ds:List Deferred},DfRel c (look σ.heap) l ds→(∀ r∈l,look σ'.heap r=some .dm)→DfRel c (look σ'.heap) l ds:=by
   intro l
   induction l with
   | nil=>intro ds h _;exact h
   | cons r l ih=>
    rintro ds ⟨g,m,ds',h1,h2,h3,h4⟩ hl
    exact ⟨g,m,ds',hl r (by simp),h2,h3,ih h4 fun r hr=>hl r (by simp [hr])⟩
  rw [hs.dfs]
  exact this h.df (by rw [← hs.dfs];exact hs.dfsin)
theorem AW.sub {ic:ICode} {Q:Post} {σ σ':St} (hs:σ'.Sub σ) (h:AW P G nt F ic Q σ'):AW P G nt F ic Q σ:=by
 intro code ht c a w hR
 obtain ⟨hR',hx⟩:=hR.sub hs
 refine wpIn_mono (h code ht c a w hR') ?_
 rintro e a1 w1 ⟨σ1,c1,hq,hR1,hx1⟩
 exact ⟨σ1,c1,hq,hR1,hx.trans hx1⟩
end
end Go.Abs
namespace Go.Abs
inductive Frz (H:Hp):V→V→Prop where
 | refl (v:V):Frz H v v
 | own {r n T es:Nat} {xs:List (List D)} (h:H r=some (.row T es xs)) (hl:xs.length=n):Frz H (.own r n) (.d (.sl es xs))
 | nil (es:Nat):Frz H (.d .nilSl) (.d (.sl es []))
 | fsl (es:Nat) (xs:List (List D)):Frz H (.fsl es xs) (.d (.sl es xs))
 | opq {v:V} (h:cellsOf v=some [v]) (hna:∀ cs,v≠.agg cs):Frz H v .opq
 | agg {cs cs':List V} (hl:cs'.length=cs.length) (h:∀ (i:Nat) (x y:V),cs[i]?=some x→cs'[i]?=some y→Frz H x y):Frz H (.agg cs) (.agg cs')
 | tup {cs cs':List V} (hl:cs'.length=cs.length) (h:∀ (i:Nat) (x y:V),cs[i]?=some x→cs'[i]?=some y→Frz H x y):Frz H (.tup cs) (.tup cs')
def FrzL (H:Hp):List V→List V→Prop
 | [],[]=>True
 | x::xs,y::ys=>Frz H x y∧FrzL H xs ys
 | _,_=>False
theorem FrzL.get {H:Hp}:∀ {cs cs':List V},FrzL H cs cs'→cs'.length=cs.length∧∀ (i:Nat) (x y:V),cs[i]?=some x→cs'[i]?=some y→Frz H x y
 | [],[],_=>⟨rfl,fun i x y hx=>by simp at hx⟩
 | x::xs,y::ys,⟨h,k⟩=>by
  obtain ⟨hl,hg⟩:=FrzL.get k
  refine ⟨by simp [hl],fun i a b ha hb=>?_⟩
  cases i with
  | zero=>simp at ha hb;subst ha hb;exact h
  | succ i=>exact hg i a b (by simpa using ha) (by simpa using hb)
 | [],_::_,h=>h.elim
 | _::_,[],h=>h.elim
theorem Frz.agg_of {H:Hp} {cs cs':List V} (h:FrzL H cs cs'):Frz H (.agg cs) (.agg cs'):=.agg h.get.1 h.get.2
theorem Frz.tup_of {H:Hp} {cs cs':List V} (h:FrzL H cs cs'):Frz H (.tup cs) (.tup cs'):=.tup h.get.1 h.get.2
def Taken (c:Cx) (H:Hp):Nat→Prop:=fun g=>∃ r T es xs m,H r=some (.row T es xs)∧c.fm r=some (g,m)
theorem row_data {G:Gl} {c:Cx} {H:Hp} {U:Nat→Prop} {fr:Fr} {w:World} (h:HRel G c H U fr w) {r n T es m:Nat} {xs:List (List D)} (hr:H r=some (.row T es xs)) (hl:xs.length=n) {a:Option Addr}
  (ha:(∃ g,c.fm r=some (g,m)∧a=some ⟨g,0,none⟩)∨(c.fm r=none∧a=none∧m=0)) {A':Nat→Prop} (hA:∀ g,c.A g→A' g) (hT:∀ g,c.fm r=some (g,m)→A' g):DRel A' w (.sl es xs) (.slice a n m):=by
 subst hl
 rcases ha with ⟨g,hf,rfl⟩ | ⟨hf,rfl,rfl⟩
 ·obtain ⟨g',m',hf',hB⟩:=(h.pl r _ hr).resolve_right (fun hn=>by rw [hf] at hn;cases hn.1)
  rw [hf] at hf';cases hf'
  obtain ⟨cur,hg,hc,hle,hm,hes,hu,hd⟩:=hB
  have hex:∀ i:Nat,∃ f:Nat→Value,∀ j,i<xs.length→j<es→cur[i*es+j]?=some (f j):=fun i=>by
   by_cases hi:i<xs.length
   ·have:∀ j:Nat,∃ cv,j<es→cur[i*es+j]?=some cv:=fun j=>by
     by_cases hj:j<es
     ·have hrow:=hu i _ (List.getElem?_eq_getElem hi)
      obtain ⟨cv,h1,_⟩:=hd i j xs[i] _ (List.getElem?_eq_getElem hi) (List.getElem?_eq_getElem (by omega))
      exact ⟨cv,fun _=>h1⟩
     ·exact ⟨.nilFunc,fun h=>absurd h hj⟩
    obtain ⟨f,hf⟩:=Classical.axiomOfChoice this
    exact ⟨f,fun j _ hj=>hf j hj⟩
   ·exact ⟨fun _=>.nilFunc,fun j h=>absurd h hi⟩
  obtain ⟨cv,hcv⟩:=Classical.axiomOfChoice hex
  refine .sl es xs _ m cv hle hm (fun _=>⟨g,0,rfl,hT _ hf⟩) hu (fun g0 o0 e i j hi hj=>?_) (fun i j row x hr' hx=>?_)
  ·cases e
   rw [cell_at hg,Nat.zero_add]
   exact hcv i j hi hj
  ·have hi:=(List.getElem?_eq_some_iff.1 hr').1
   have hj:j<es:=by have:=hu i row hr';have:=(List.getElem?_eq_some_iff.1 hx).1;omega
   obtain ⟨u,h1,h2⟩:=hd i j row x hr' hx
   rw [hcv i j hi hj] at h1;cases h1
   exact h2.mono hA (fun _ _=>rfl)
 ·have:xs=[]:=by
   rcases h.pl r _ hr with ⟨g,m,h1,_⟩ | ⟨_,h2⟩
   ·rw [hf] at h1;cases h1
   ·cases h2;rfl
  subst this
  exact .sl es [] none 0 (fun _ _=>.nilFunc) (Nat.le_refl _) (Nat.zero_le _) (fun h=>absurd h (by simp)) (fun i row h=>by simp at h) (fun _ _ h=>by cases h) (fun i j row x h=>by simp at h)
theorem VRel.frz {G:Gl} {c:Cx} {H:Hp} {U:Nat→Prop} {fr:Fr} {w:World} (h:HRel G c H U fr w) {v v':V} {cv:Value} (hv:VRel c H U w v cv) (hz:Frz H v v') {c':Cx} (hf:c'.fm=c.fm) (hy:c'.y=c.y) (hA:∀ g,c.A g→c'.A g)
  (hT:∀ g,Taken c H g→c'.A g):VRel c' H U w v' cv:=by
 have hs:HStep c H U c' H U:=⟨fun _ h=>h,hy,hA,fun r T cs hr=>⟨by rw [hf],cs,hr⟩,fun r T es xs _ hr=>⟨xs,hr,Nat.le_refl _,fun _=>by rw [hf]⟩,fun r es hr=>⟨by rw [hf],es,hr⟩,fun r hr=>⟨by rw [hf],hr⟩,fun r T cs _ hr=>⟨cs,hr,by rw [hf]⟩⟩
 induction hz generalizing cv with
 | refl v=>exact hv.mono (fun _ _=>rfl) hs
 | @own r n T es xs hr hl=>
  cases hv with
  | own _ _ a m hu hb hn hp=>
   exact .d _ _ (row_data h hr hl (hp T es xs hr hl) hA (fun g hf=>hT g ⟨r,T,es,xs,m,hr,hf⟩))
 | opq h hna=>exact .opq _ (hv.one h hna)
 | fsl es xs=>
  cases hv with
  | fsl _ _ a h=>exact .d _ _ (h.mono hA (fun _ _=>rfl))
 | nil es=>
  cases hv with
  | d _ _ hd=>cases hd;exact .d _ _ (.sl es [] none 0 (fun _ _=>.nilFunc) (Nat.le_refl _) (Nat.zero_le _) (fun h=>absurd h (by simp)) (fun i row h=>by simp at h) (fun _ _ h=>by cases h) (fun i j row x h=>by simp at h))
 | @agg cs cs' hl hz ih=>
  cases hv with
  | agg _ vs hl' hp h1=>
   refine .agg cs' vs (by omega) (fun i x v hx hv=>?_) h1
   have hi:i<cs.length:=by have:=(List.getElem?_eq_some_iff.1 hx).1;omega
   exact ih i _ x (List.getElem?_eq_getElem hi) hx (hp i _ v (List.getElem?_eq_getElem hi) hv)
 | @tup cs cs' hl hz ih=>
  cases hv with
  | tup _ vs hl' hp=>
   refine .tup cs' vs (by omega) (fun i x v hx hv=>?_)
   have hi:i<cs.length:=by have:=(List.getElem?_eq_some_iff.1 hx).1;omega
   exact ih i _ x (List.getElem?_eq_getElem hi) hx (hp i _ v (List.getElem?_eq_getElem hi) hv)
def GCall (G:Gl) (C:Nat→Array Value→World→(Ending→World→Prop)→Prop) (vs:List V) (H:List (Nat×Blk)) (nx:Nat) (fr:Fr) (r:V) (H':List (Nat×Blk)) (nx':Nat) (fr':Fr):Prop:=
 ∀ (c:Cx) (w:World) (args:Array Value),args.size=vs.length→(∀ (i:Nat) (x:V) (v:Value),vs[i]?=some x→args[i]?=some v→VRel c (look H) (fun r=>r<nx) w x v)→HRel G c (look H) (fun r=>r<nx) fr w →
  C c.y args w fun e w'=>∃ rv c',e=.returned rv∧VRel c' (look H') (fun r=>r<nx') w' r rv∧HStep c (look H) (fun r=>r<nx) c' (look H') (fun r=>r<nx') ∧
   HRel G c' (look H') (fun r=>r<nx') fr' w'∧Ext c (look H) w c' (look H') w'
def SCall (P:Program) (G:Gl) (f:Nat) (vs:List V) (H:List (Nat×Blk)) (nx:Nat) (fr:Fr) (r:V) (H':List (Nat×Blk)) (nx':Nat) (fr':Fr):Prop:=
 GCall G (fun _ args w R=>CallsIn Fence.wide 0 P f args w R) vs H nx fr r H' nx' fr'
def PCall (P:Program) (G:Gl) (f:Nat) (vs:List V) (r:V):Prop:=SCall P G f vs [] 0 Fr.emp r [] 0 Fr.emp
inductive IRes where
 | tmp (t:Nat)
 | cell (ag:Bool) (sz t:Nat)
inductive TrRes (P:Program):ResultVar→IRes→Prop where
 | tmp (t:Nat):TrRes P (.tmp t) (.tmp t)
 | cell {a t:Nat} {u:TypeDesc} {i:TypeInfo} (hu:P.underlying t=some u) (hi:P.info? t=some i):TrRes P (.cell a t) (.cell (aggD u) i.size a)
inductive TrRess (P:Program):List ResultVar→List IRes→Prop where
 | nil:TrRess P [] []
 | cons {r:ResultVar} {r':IRes} {l:List ResultVar} {l':List IRes} (h:TrRes P r r') (k:TrRess P l l'):TrRess P (r::l) (r'::l')
inductive ResV (σ:St):IRes→V→Prop where
 | tmp {t:Nat} {v:V} (h:look σ.env t=some v):ResV σ (.tmp t) v
 | one {sz t r off T:Nat} {cs:List V} {v:V} (h:look σ.env t=some (.ptr r off)) (hb:look σ.heap r=some (.var T cs)) (hv:cs[off]?=some v):ResV σ (.cell false sz t) v
 | agg {sz t r off T:Nat} {cs:List V} (h:look σ.env t=some (.ptr r off)) (hb:look σ.heap r=some (.var T cs)) (ho:off+sz≤cs.length):ResV σ (.cell true sz t) (.agg (partL cs off sz))
inductive ResVs (σ:St):List IRes→List V→Prop where
 | nil:ResVs σ [] []
 | cons {r:IRes} {v:V} {l:List IRes} {vs:List V} (h:ResV σ r v) (k:ResVs σ l vs):ResVs σ (r::l) (v::vs)
def retV:List V→V
 | [v]=>v
 | vs=>.tup vs
section
variable {P:Program} {G:Gl} {nt:Nat} {F:Fence}
theorem loadV_one {c:Cx} {U:Nat→Prop} {E:En} {H:Hp} {fr:Fr} {a:Act} {w:World} (hR:Rel G nt c U E H fr a w) {t:Nat} {u:TypeDesc} (hu:P.underlying t=some u) (ha:aggD u=false) {r off T:Nat} {cs:List V} {x:V} {cv:Value}
  (hv:VRel c H U w (.ptr r off) cv) (hb:H r=some (.var T cs)) (hx:cs[off]?=some x):∃ rv,(do loadVar t (← asAddr cv)).run P w=.ok rv w∧VRel c H U w x rv:=by
 obtain ⟨g,m,hf,rfl⟩:=hv.ptr_inv hb
 obtain ⟨cur,hg,hl,hc⟩:=hR.h.var hb hf
 have hlt:=(List.getElem?_eq_some_iff.1 hx).1
 rw [← hl] at hlt
 refine ⟨cur[off],?_,(hc off x _ hx (Array.getElem?_eq_getElem hlt)).1⟩
 have:=run_load_one (P:=P) hu ha (w:=w) (ad:=⟨g,off,none⟩) (v:=cur[off]) (by rw [cell_at hg];exact Array.getElem?_eq_getElem hlt)
 simpa [Instr.loadAt,Instr.sureAddr,asAddr] using this
theorem loadV_agg {c:Cx} {U:Nat→Prop} {E:En} {H:Hp} {fr:Fr} {a:Act} {w:World} (hR:Rel G nt c U E H fr a w) {t:Nat} {u:TypeDesc} {i0:TypeInfo} (hu:P.underlying t=some u) (ha:aggD u=true) (hi:P.info? t=some i0) {r off T:Nat} {cs:List V} {cv:Value}
  (hv:VRel c H U w (.ptr r off) cv) (hb:H r=some (.var T cs)) (ho:off+i0.size≤cs.length):∃ rv,(do loadVar t (← asAddr cv)).run P w=.ok rv w∧VRel c H U w (.agg (partL cs off i0.size)) rv:=by
 obtain ⟨g,m,hf,rfl⟩:=hv.ptr_inv hb
 obtain ⟨cur,hg,hl,hc⟩:=hR.h.var hb hf
 have hsub:∀ (j:Nat) v,((cur.toList.drop off).take i0.size)[j]?=some v→cur[off+j]?=some v∧j<i0.size:=fun j v hv=>by
  rw [List.getElem?_take] at hv
  split at hv
  ·rename_i hj;rw [List.getElem?_drop] at hv;exact ⟨by simpa using hv,hj⟩
  ·cases hv
 refine ⟨.agg ((cur.toList.drop off).take i0.size).toArray,?_,.agg _ _ (by simp [partL_eq,hl]) (fun j x v hx hv=>?_) (fun v hv=>?_)⟩
 ·have:=run_load_agg (P:=P) hu ha hi (w:=w) (ad:=⟨g,off,none⟩) ((cur.toList.drop off).take i0.size) (by simp;omega) (fun j v hv=>by
   rw [add_none,cell_at hg];exact (hsub j v hv).1)
  simpa [Instr.loadAt,Instr.sureAddr,asAddr] using this
 ·obtain ⟨h2,h3⟩:=hsub j v hv
  rw [partL_eq,List.getElem?_take,if_pos h3,List.getElem?_drop] at hx
  exact (hc _ x v hx h2).1
 ·obtain ⟨j,hj⟩:=List.getElem?_of_mem hv
  obtain ⟨h2,h3⟩:=hsub j v hj
  have hlt:off+j<cs.length:=by omega
  exact (hc _ _ v (List.getElem?_eq_getElem hlt) h2).2
theorem res_one {σ:St} {c:Cx} {a:Act} {w:World} (hR:RelS G nt c σ a w) {r:ResultVar} {r':IRes} (ht:TrRes P r r') {v:V} (hv:ResV σ r' v) :
  ∃ rv,((match r with | .tmp t=>pure (a.tmps.getD t undef) | .cell x t=>do loadVar t (← asAddr (a.tmps.getD x undef))):Sem Value).run P w=.ok rv w∧VRel c (look σ.heap) (fun r=>r<σ.nx) w v rv:=by
 cases ht with
 | tmp t=>
  cases hv with
  | tmp h=>
   obtain ⟨cv,h1,h2⟩:=hR.R.env t v h
   exact ⟨cv,by simp [Array.getD_eq_getD_getElem?,h1],h2⟩
 | cell hu hi=>
  generalize hag:aggD _=ag at hv
  generalize hsz:TypeInfo.size _=sz at hv
  cases hv with
  | one h hb hx=>
   obtain ⟨cv,h1,h2⟩:=hR.R.env _ _ h
   have:=loadV_one (P:=P) hR.R hu hag h2 hb hx
   simpa [Array.getD_eq_getD_getElem?,h1] using this
  | agg h hb ho=>
   obtain ⟨cv,h1,h2⟩:=hR.R.env _ _ h
   subst hsz
   have:=loadV_agg (P:=P) hR.R hu hag hi h2 hb ho
   simpa [Array.getD_eq_getD_getElem?,h1] using this
theorem res_list {σ:St} {c:Cx} {a:Act} {w:World} (hR:RelS G nt c σ a w):∀ {rs:List ResultVar} {rs':List IRes},TrRess P rs rs'→∀ {vs:List V},ResVs σ rs' vs →
  ∃ rvs:List Value,(rs.mapM (fun r=>(match r with | .tmp t=>pure (a.tmps.getD t undef) | .cell x t=>do loadVar t (← asAddr (a.tmps.getD x undef)):Sem Value))).run P w=.ok rvs w∧rvs.length=vs.length ∧
   ∀ (i:Nat) x v,vs[i]?=some x→rvs[i]?=some v→VRel c (look σ.heap) (fun r=>r<σ.nx) w x v
 | _,_,.nil,_,.nil=>⟨[],rfl,rfl,fun i x v hx=>by simp at hx⟩
 | _,_,.cons h k,_,.cons h' k'=>by
  obtain ⟨rv,h1,h2⟩:=res_one hR h h'
  obtain ⟨rvs,h3,h4,h5⟩:=res_list hR k k'
  refine ⟨rv::rvs,?_,by simp [h4],fun i x v hx hv=>?_⟩
  ·rw [List.mapM_cons]
   simp only [Sem.run_bind,h1,Result.andThen_ok,h3,Sem.run_pure]
  ·cases i with
   | zero=>simp at hx hv;subst hx hv;exact h2
   | succ i=>exact h5 i x v (by simpa using hx) (by simpa using hv)
theorem res_ok {fn:Func} {σ:St} {c:Cx} {a:Act} {w:World} (hR:RelS G nt c σ a w) {rs':List IRes} (ht:TrRess P fn.results.toList rs') {vs:List V} (hv:ResVs σ rs' vs) :
  ∃ rv,(results fn a.tmps).run P w=.ok rv w∧VRel c (look σ.heap) (fun r=>r<σ.nx) w (retV vs) rv:=by
 obtain ⟨rvs,h1,h2,h3⟩:=res_list hR ht hv
 have hm:(results fn a.tmps).run P w=.ok (if h:rvs.toArray.size=1 then rvs.toArray[0] else .tuple rvs.toArray) w:=by
  unfold results
  rw [Sem.run_bind,← Array.toArray_toList (xs:=fn.results),List.mapM_toArray]
  simp only [Sem.run_map]
  erw [h1]
  rfl
 refine ⟨_,hm,?_⟩
 match vs,rvs,h2,h3 with
 | [v],[rv],_,h3=>exact h3 0 v rv rfl rfl
 | [],[],_,h3=>exact .tup [] [] rfl (fun i x v hx=>by simp at hx)
 | v1::v2::vs,r1::r2::rvs,h2,h3=>
  have:¬ (r1::r2::rvs).toArray.size=1:=by simp
  rw [dif_neg this]
  exact .tup _ _ h2 h3
end
end Go.Abs
