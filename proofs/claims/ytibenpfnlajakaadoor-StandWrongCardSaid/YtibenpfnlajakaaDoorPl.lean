/- Plain laws. Conditions: none. -/
import Derived.Test.YtibenpfnlajakaaDoorAr
set_option linter.unusedVariables false
set_option linter.unusedSimpArgs false
namespace Go.Proofs.YtibenpfnlajakaaDoor
open Go.Abs Go.Proofs.Tz
theorem cs {α : Type} (c : Bool) (a b : α) : (bif c then some a else some b) = some (bif c then a else b) := by cases c <;> rfl
theorem bsm {α β : Type} (a : α) (f : α → Option β) : (some a).bind f = f a := rfl
theorem eachS_all {α : Type} {f : Int → α → Bool → Option Bool} {p : α → Bool} (h : ∀ i x s, f i x s = some (s && p x)) : ∀ (xs : List α) (i : Int) (s : Bool), eachS f xs i s = some (s && xs.all p)
 | [], i, s => by simp [eachS]
 | x :: xs, i, s => by rw [eachS, h, bsm, eachS_all h xs]; simp [Bool.and_assoc]
def rg (n a b : Int) : Bool := decide (a ≤ n) && decide (n ≤ b)
def okPart (p : StandPart) : Bool := rg p.Weight.Low 1 p.Weight.High && decide (p.Weight.High ≤ 99) && decide (wr (p.Weight.High - p.Weight.Low) ≤ 4) && rg p.Along (-60) 60 && rg p.High 0 60
def okTrial (b : StandBook) (t : StandTrial) : Bool := rg t.Weight 1 b.Limit && rg t.Lean_ (wr (-b.Lean_)) b.Lean_
def okHead (b : StandBook) : Bool := rg b.Kind 0 1 && rg b.Front 1 60 && rg b.Back 1 60 && (bif decide (b.Kind = 1) then rg b.Radius 1 120 else decide (b.Radius = 0)) && rg (b.Parts.length : Int) 1 4
def okTail (b : StandBook) : Bool := rg b.Along (-60) 60 && rg b.High 0 60 && rg b.Lean_ 0 12 && rg b.Limit 1 60 && decide ((b.Trials.length : Int) ≤ 5)
def okB (b : StandBook) : Bool := okHead b && okTail b && b.Parts.all okPart && b.Trials.all (okTrial b)
theorem p18_36 (i : Int) (x : StandPart) (s : Bool) : g18_36 i x s = some (s && okPart x) := by
 simp only [g18_36, g63, bsm, cs, okPart, rg, Bool.cond_false_right, Bool.and_assoc]
theorem p18_56 (b : StandBook) (i : Int) (x : StandTrial) (s : Bool) : g18_56 b i x s = some (s && okTrial b x) := by
 simp only [g18_56, g63, bsm, cs, okTrial, rg, Bool.cond_false_right, Bool.and_assoc]
theorem p18 (b : StandBook) : g18 b = some (bif okB b then 0 else 20) := by
 unfold g18
 simp only [g63, bsm, cs, Bool.cond_false_right, eachS_all p18_36, eachS_all (p18_56 b)]
 have : ∀ x : Bool, (bif !x then (20 : Int) else 0) = bif x then 0 else 20 := by intro x; cases x <;> rfl
 rw [this]
 congr 2
 simp only [okB, okHead, okTail, rg]
 cases decide (b.Kind = 1) <;> simp [Bool.and_assoc]
theorem while_all {α : Type} {f : Bool × Int → Option (Ctl (Bool × Int) Bool)} {p : α → Bool} {xs : List α} (hl : xs.length < 900)
  (h0 : ∀ i, f (false, i) = some (.brk false)) (h1 : f (true, (xs.length : Int)) = some (.brk true))
  (h : ∀ (i : Nat) x, xs[i]? = some x → f (true, (i : Int)) = some (.next (p x, ((i + 1 : Nat) : Int)))) :
  ∀ (n i : Nat), i + n = xs.length → ∀ k, n + 2 ≤ k → whileC f k (true, (i : Int)) = some ((xs.drop i).all p)
 | 0, i, hi, k, hk => by
  obtain ⟨k, rfl⟩ : ∃ k', k = k' + 1 := ⟨k - 1, by omega⟩
  have : i = xs.length := by omega
  subst this
  rw [whileC, h1]; simp
 | n + 1, i, hi, k, hk => by
  obtain ⟨k, rfl⟩ : ∃ k', k = k' + 1 := ⟨k - 1, by omega⟩
  have hlt : i < xs.length := by omega
  rw [whileC, h i _ (List.getElem?_eq_getElem hlt), bsm, List.drop_eq_getElem_cons hlt, List.all_cons]
  cases hp : p xs[i] with
  | false =>
   obtain ⟨k, rfl⟩ : ∃ k', k = k' + 1 := ⟨k - 1, by omega⟩
   simp only; rw [whileC, h0]; rfl
  | true => simp only; rw [while_all hl h0 h1 h n (i + 1) (by omega) k (by omega)]; simp
theorem wr_nat {i : Nat} (h : i < 1000) : wr ((i : Int) + 1) = ((i + 1 : Nat) : Int) := by rw [wr_in (by omega) (by omega)]; simp
theorem ixL_nat {α : Type} (xs : List α) (i : Nat) : ixL xs (i : Int) = xs[i]? := by
 unfold ixL
 have : decide (0 ≤ (i : Int)) = true := by simp
 rw [this]; simp
end Go.Proofs.YtibenpfnlajakaaDoor
namespace Go.Proofs.YtibenpfnlajakaaDoor
open Go.Abs Go.Proofs.Tz
def Bd (a x : Int) : Prop := -a ≤ x ∧ x ≤ a
theorem Bd.mul {a b x y : Int} (hx : Bd a x) (hy : Bd b y) : Bd (a * b) (x * y) := by
 have h1 : x.natAbs ≤ a.natAbs := by obtain ⟨h, k⟩ := hx; omega
 have h2 : y.natAbs ≤ b.natAbs := by obtain ⟨h, k⟩ := hy; omega
 have h3 := Nat.mul_le_mul h1 h2
 rw [← Int.natAbs_mul, ← Int.natAbs_mul] at h3
 have ha : 0 ≤ a := by obtain ⟨h, k⟩ := hx; omega
 have hb : 0 ≤ b := by obtain ⟨h, k⟩ := hy; omega
 have := Int.mul_nonneg ha hb
 constructor <;> omega
theorem Bd.add {a b x y : Int} (hx : Bd a x) (hy : Bd b y) : Bd (a + b) (x + y) := by obtain ⟨h, k⟩ := hx; obtain ⟨h', k'⟩ := hy; constructor <;> omega
theorem Bd.sub {a b x y : Int} (hx : Bd a x) (hy : Bd b y) : Bd (a + b) (x - y) := by obtain ⟨h, k⟩ := hx; obtain ⟨h', k'⟩ := hy; constructor <;> omega
theorem Bd.mono {a b x : Int} (hx : Bd a x) (h : a ≤ b) : Bd b x := by obtain ⟨h, k⟩ := hx; constructor <;> omega
theorem Bd.wr {a x : Int} (hx : Bd a x) (h : a ≤ 9223372036854775807) : wr x = x := by obtain ⟨h1, k⟩ := hx; exact wr_in (by omega) (by omega)
def ld : List StandPart → List Int → (Int × Int × Int) → (Int × Int × Int)
 | p :: ps, n :: ns, s => ld ps ns (s.1 + n, s.2.1 + n * p.Along, s.2.2 + n * p.High)
 | _, _, s => s
def SB (k : Int) (s : Int × Int × Int) : Prop := Bd (k * 1000) s.1 ∧ Bd (k * 100000) s.2.1 ∧ Bd (k * 100000) s.2.2
def PB (p : StandPart) : Prop := Bd 60 p.Along ∧ Bd 60 p.High
def NB (n : Int) : Prop := Bd 200 n
theorem sb_step {k : Int} (hk : 0 ≤ k) {s : Int × Int × Int} {p : StandPart} {n : Int} (h : SB k s) (hp : PB p) (hn : NB n) : SB (k + 1) (s.1 + n, s.2.1 + n * p.Along, s.2.2 + n * p.High) := by
 have h1 := Bd.mul hn hp.1
 have h2 := Bd.mul hn hp.2
 refine ⟨(h.1.add hn).mono (by omega), (h.2.1.add h1).mono (by omega), (h.2.2.add h2).mono (by omega)⟩
theorem sb_wr {k : Int} (hk : 0 ≤ k) (hk' : k ≤ 1000) {s : Int × Int × Int} {p : StandPart} {n : Int} (h : SB k s) (hp : PB p) (hn : NB n) :
  (wr (s.1 + n), wr (s.2.1 + wr (n * p.Along)), wr (s.2.2 + wr (n * p.High))) = (s.1 + n, s.2.1 + n * p.Along, s.2.2 + n * p.High) := by
 have h1 := Bd.mul hn hp.1
 have h2 := Bd.mul hn hp.2
 rw [h1.wr (by omega), h2.wr (by omega), (h.1.add hn).wr (by omega), (h.2.1.add h1).wr (by omega), (h.2.2.add h2).wr (by omega)]
theorem ld_sb : ∀ (ps : List StandPart) (ns : List Int) (k : Int) (s : Int × Int × Int), 0 ≤ k → (∀ p, p ∈ ps → PB p) → (∀ n, n ∈ ns → NB n) → SB k s → SB (k + ps.length) (ld ps ns s)
 | [], ns, k, s, hk, hp, hn, h => by simpa [ld] using h
 | p :: ps, [], k, s, hk, hp, hn, h => by
  refine ⟨h.1.mono ?_, h.2.1.mono ?_, h.2.2.mono ?_⟩ <;> (simp only [List.length_cons]; omega)
 | p :: ps, n :: ns, k, s, hk, hp, hn, h => by
  have := ld_sb ps ns (k + 1) _ (by omega) (fun q hq => hp q (by simp [hq])) (fun q hq => hn q (by simp [hq])) (sb_step hk h (hp p (by simp)) (hn n (by simp)))
  rw [ld]
  have e : k + ((p :: ps).length : Int) = k + 1 + (ps.length : Int) := by simp only [List.length_cons]; omega
  rw [e]; exact this
theorem ixN_nat {n i : Nat} (h : i < n) : ixN n (i : Int) = some i := by
 unfold ixN
 have : (decide (0 ≤ (i : Int)) && Nat.blt (i : Int).toNat n) = true := by simp [h, Nat.blt_eq]
 rw [this]; simp
theorem p95_loop (w : Nat → Int) : ∀ (ps : List StandPart) (i : Nat) (k : Int) (s : Int × Int × Int), 0 ≤ k → k + ps.length ≤ 1000 → i + ps.length ≤ 4 → (∀ p, p ∈ ps → PB p) → (∀ j, j < 4 → NB (w j)) → SB k s →
  eachS (g95_3 w) ps (i : Int) s = some (ld ps ((List.range' i ps.length).map w) s)
 | [], i, k, s, hk, hk', hi, hp, hn, h => by simp [eachS, ld]
 | p :: ps, i, k, s, hk, hk', hi, hp, hn, h => by
  simp only [List.length_cons] at hk' hi
  have hi4 : i < 4 := by omega
  obtain ⟨s1, s2, s3⟩ := s
  have e := sb_wr hk (by omega) h (hp p (by simp)) (hn i hi4)
  simp only at e
  rw [eachS]
  simp only [g95_3, ixN_nat hi4, bsm]
  rw [e]
  have := p95_loop w ps (i + 1) (k + 1) _ (by omega) (by omega) (by omega) (fun q hq => hp q (by simp [hq])) hn (sb_step hk h (hp p (by simp)) (hn i hi4))
  simp only [Int.natCast_add, Int.cast_ofNat_Int] at this
  rw [this, List.length_cons, List.range'_succ, List.map_cons, ld]
theorem p74_loop (b : StandBook) : ∀ (ns : List Int) (i : Nat) (k : Int) (s : Int × Int × Int), 0 ≤ k → k + ns.length ≤ 1000 → i + ns.length ≤ b.Parts.length → (∀ p, p ∈ b.Parts → PB p) → (∀ n, n ∈ ns → NB n) → SB k s →
  eachS (g74_2 b) ns (i : Int) s = some (ld (b.Parts.drop i) ns s)
 | [], i, k, s, hk, hk', hi, hp, hn, h => by
  cases b.Parts.drop i <;> simp [eachS, ld]
 | n :: ns, i, k, s, hk, hk', hi, hp, hn, h => by
  simp only [List.length_cons] at hk' hi
  have hlt : i < b.Parts.length := by omega
  obtain ⟨s1, s2, s3⟩ := s
  have hpi := hp _ (List.getElem_mem hlt)
  have e := sb_wr hk (by omega) h hpi (hn n (by simp))
  simp only at e
  rw [eachS]
  simp only [g74_2, ixL_nat, List.getElem?_eq_getElem hlt, bsm]
  rw [e]
  have := p74_loop b ns (i + 1) (k + 1) _ (by omega) (by omega) (by omega) hp (fun q hq => hn q (by simp [hq])) (sb_step hk h hpi (hn n (by simp)))
  simp only [Int.natCast_add, Int.cast_ofNat_Int] at this
  rw [this, List.drop_eq_getElem_cons hlt, ld]
def topL (b : StandBook) (s : Int × Int × Int) : Int :=
 bif decide (b.Kind = 0) then min (b.Back * s.1 + s.2.1) (b.Front * s.1 - s.2.1)
 else min (b.Back * (b.Radius * s.1 - s.2.2) + b.Radius * s.2.1) (b.Front * (b.Radius * s.1 - s.2.2) - b.Radius * s.2.1)
structure Sm (b : StandBook) : Prop where
 kind : b.Kind = 0 ∨ b.Kind = 1
 front : Bd 200 b.Front
 back : Bd 200 b.Back
 radius : Bd 200 b.Radius
 along : Bd 60 b.Along
 high : Bd 60 b.High
 parts : ∀ p, p ∈ b.Parts → PB p
 len : b.Parts.length ≤ 5
theorem top_wr0 {b : StandBook} (hb : Sm b) {s : Int × Int × Int} (h : SB 10 s) : wr (wr (b.Back * s.1) + s.2.1) = b.Back * s.1 + s.2.1 ∧ wr (wr (b.Front * s.1) - s.2.1) = b.Front * s.1 - s.2.1 := by
 have h1 := Bd.mul hb.back h.1
 have h2 := Bd.mul hb.front h.1
 rw [h1.wr (by omega), h2.wr (by omega), (h1.add h.2.1).wr (by omega), (h2.sub h.2.1).wr (by omega)]
 exact ⟨rfl, rfl⟩
theorem top_wr1 {b : StandBook} (hb : Sm b) {s : Int × Int × Int} (h : SB 10 s) : wr (wr (b.Back * wr (wr (b.Radius * s.1) - s.2.2)) + wr (b.Radius * s.2.1)) = b.Back * (b.Radius * s.1 - s.2.2) + b.Radius * s.2.1 ∧
  wr (wr (b.Front * wr (wr (b.Radius * s.1) - s.2.2)) - wr (b.Radius * s.2.1)) = b.Front * (b.Radius * s.1 - s.2.2) - b.Radius * s.2.1 := by
 have h0 := Bd.mul hb.radius h.1
 have h3 := Bd.mul hb.radius h.2.1
 have hd := h0.sub h.2.2
 have h1 := Bd.mul hb.back hd
 have h2 := Bd.mul hb.front hd
 rw [h0.wr (by omega), h3.wr (by omega), hd.wr (by omega), h1.wr (by omega), h2.wr (by omega), (h1.add h3).wr (by omega), (h2.sub h3).wr (by omega)]
 exact ⟨rfl, rfl⟩
theorem p123 (a c : Int) : g123 a [c] = some (min a c) := rfl
theorem p121 {b : StandBook} (hb : Sm b) (hk : b.Kind = 0) (ts : List (Nat → Int)) (ll : Stand_load) {w m h : Int} (hs : SB 10 (w, m, h)) : g121 b ts ll ⟨w, m, h⟩ = some (topL b (w, m, h)) := by
 have := top_wr0 hb hs
 simp only at this
 simp only [g121, this.1, this.2, p123, bsm, topL, hk]; rfl
theorem p122 {b : StandBook} (hb : Sm b) (hk : b.Kind = 1) (ts : List (Nat → Int)) (ll : Stand_load) {w m h : Int} (hs : SB 10 (w, m, h)) : g122 b ts ll ⟨w, m, h⟩ = some (topL b (w, m, h)) := by
 have := top_wr1 hb hs
 simp only at this
 simp only [g122, this.1, this.2, p123, bsm, topL, hk]; rfl
end Go.Proofs.YtibenpfnlajakaaDoor
namespace Go.Proofs.YtibenpfnlajakaaDoor
open Go.Abs Go.Proofs.Tz
def s0 (b : StandBook) (l : Stand_load) (weight lean : Int) : Int × Int × Int := (l.weight + weight, l.along + weight * (b.Along + lean), l.high + weight * b.High)
def CB (weight lean : Int) : Prop := Bd 100 weight ∧ Bd 100 lean
def LB (l : Stand_load) : Prop := Bd 200 l.weight ∧ Bd 20000 l.along ∧ Bd 20000 l.high
def z0 : Stand_load := ⟨0, 0, 0⟩
theorem lb_z0 : LB z0 := ⟨⟨by decide, by decide⟩, ⟨by decide, by decide⟩, ⟨by decide, by decide⟩⟩
theorem s0_sb {b : StandBook} (hb : Sm b) {l : Stand_load} (hl : LB l) {weight lean : Int} (hc : CB weight lean) : SB 1 (s0 b l weight lean) := by
 have h1 := Bd.mul hc.1 (hb.along.add hc.2)
 have h2 := Bd.mul hc.1 hb.high
 exact ⟨(hl.1.add hc.1).mono (by omega), (hl.2.1.add h1).mono (by omega), (hl.2.2.add h2).mono (by omega)⟩
theorem s0_wr {b : StandBook} (hb : Sm b) {l : Stand_load} (hl : LB l) {weight lean : Int} (hc : CB weight lean) :
  (wr (l.weight + weight), wr (l.along + wr (weight * wr (b.Along + lean))), wr (l.high + wr (weight * b.High))) = s0 b l weight lean := by
 have h0 := hb.along.add hc.2
 have h1 := Bd.mul hc.1 h0
 have h2 := Bd.mul hc.1 hb.high
 rw [h0.wr (by omega), h1.wr (by omega), h2.wr (by omega), (hl.1.add hc.1).wr (by omega), (hl.2.1.add h1).wr (by omega), (hl.2.2.add h2).wr (by omega)]
 rfl
def wl (b : StandBook) (w : Nat → Int) : List Int := (List.range' 0 b.Parts.length).map w
def sm (b : StandBook) (l : Stand_load) (ns : List Int) (weight lean : Int) : Int × Int × Int := ld b.Parts ns (s0 b l weight lean)
theorem sm_sb {b : StandBook} (hb : Sm b) {l : Stand_load} (hl : LB l) {ns : List Int} (hn : ∀ n, n ∈ ns → NB n) {weight lean : Int} (hc : CB weight lean) : SB 10 (sm b l ns weight lean) := by
 have h := ld_sb b.Parts ns 1 _ (by omega) hb.parts hn (s0_sb hb hl hc)
 have := hb.len
 exact ⟨h.1.mono (by omega), h.2.1.mono (by omega), h.2.2.mono (by omega)⟩
theorem wl_nb {b : StandBook} (hp : b.Parts.length ≤ 4) {w : Nat → Int} (hw : ∀ j, j < 4 → NB (w j)) : ∀ n, n ∈ wl b w → NB n := by
 intro n hn
 unfold wl at hn
 rw [List.mem_map] at hn
 obtain ⟨j, hj, rfl⟩ := hn
 rw [List.mem_range'] at hj
 obtain ⟨i, hi, rfl⟩ := hj
 exact hw _ (by omega)
theorem p95 {b : StandBook} (hb : Sm b) (hp : b.Parts.length ≤ 4) (ts : List (Nat → Int)) {l : Stand_load} (hl : LB l) {w : Nat → Int} (hw : ∀ j, j < 4 → NB (w j)) {c : Stand_child} (hc : CB c.weight c.lean) :
  g95 b ts l w c = some ⟨(sm b l (wl b w) c.weight c.lean).1, (sm b l (wl b w) c.weight c.lean).2.1, (sm b l (wl b w) c.weight c.lean).2.2⟩ := by
 unfold g95
 rw [s0_wr hb hl hc]
 have := p95_loop w b.Parts 0 1 _ (by omega) (by omega) (by omega) hb.parts hw (s0_sb hb hl hc)
 rw [show ((0 : Nat) : Int) = 0 from rfl] at this
 rw [this, bsm]
 rfl
theorem p70 {b : StandBook} (hb : Sm b) (hp : b.Parts.length ≤ 4) (ts : List (Nat → Int)) {l : Stand_load} (hl : LB l) {w : Nat → Int} (hw : ∀ j, j < 4 → NB (w j)) {c : Stand_child} (hc : CB c.weight c.lean) :
  g70 b ts l w c = some (decide (topL b (sm b l (wl b w) c.weight c.lean) < 0)) := by
 unfold g70
 rw [p95 hb hp ts hl hw hc]
 have hs := sm_sb hb hl (wl_nb hp hw) hc
 generalize sm b l (wl b w) c.weight c.lean = s at hs ⊢
 obtain ⟨x, m, h⟩ := s
 rcases hb.kind with hk | hk
 ·rw [hk, show ixN 2 0 = some 0 from rfl]
  simp only [bsm]
  rw [p121 hb hk ts l hs]; rfl
 ·rw [hk, show ixN 2 1 = some 1 from rfl]
  simp only [bsm]
  rw [p122 hb hk ts l hs]; rfl
theorem p74 {b : StandBook} (hb : Sm b) {ns : List Int} (hl : ns.length ≤ b.Parts.length) (hn : ∀ n, n ∈ ns → NB n) {weight lean : Int} (hc : CB weight lean) :
  g74 b ns weight lean = some (topL b (sm b z0 ns weight lean), (sm b z0 ns weight lean).1) := by
 have e := s0_wr hb lb_z0 hc
 have hs := sm_sb hb lb_z0 hn hc
 have hlen := hb.len
 have := p74_loop b ns 0 1 _ (by omega) (by omega) (by omega) hb.parts hn (s0_sb hb lb_z0 hc)
 rw [show ((0 : Nat) : Int) = 0 from rfl, List.drop_zero] at this
 have h0 := hb.along.add hc.2
 have h1 := Bd.mul hc.1 h0
 have h2 := Bd.mul hc.1 hb.high
 have e2 : (weight, wr (weight * wr (b.Along + lean)), wr (weight * b.High)) = s0 b z0 weight lean := by
  rw [h0.wr (by omega), h1.wr (by omega), h2.wr (by omega)]
  simp [s0, z0]
 unfold g74
 rw [e2, this, bsm]
 rw [show ld b.Parts ns (s0 b z0 weight lean) = sm b z0 ns weight lean from rfl]
 generalize sm b z0 ns weight lean = s at hs
 obtain ⟨w, m, h⟩ := s
 have t0 := top_wr0 hb hs
 have t1 := top_wr1 hb hs
 simp only at t0 t1
 simp only [t0.1, t0.2, t1.1, t1.2, topL]
 cases decide (b.Kind = 0) <;> rfl
theorem p72 {b : StandBook} (hb : Sm b) {ns : List Int} (hl : ns.length ≤ b.Parts.length) (hn : ∀ n, n ∈ ns → NB n) {weight lean : Int} (hc : CB weight lean) :
  g72 b ns weight lean = some (decide (topL b (sm b z0 ns weight lean) < 0)) := by
 unfold g72; rw [p74 hb hl hn hc, bsm]
theorem eachC_all {α : Type} {f : Int → α → Unit → Option (Ctl Unit Bool)} {p : Int → α → Bool} : ∀ (xs : List α) (i : Int), (∀ (j : Nat) x, xs[j]? = some x → f (i + j) x () = some (bif p (i + j) x then .next () else .brk false)) →
  bindC (eachC f xs i ()) (fun _ => some true) = some ((xs.zipIdx.map fun y => p (i + y.2) y.1).all id)
 | [], i, h => rfl
 | x :: xs, i, h => by
  have h0 := h 0 x rfl
  rw [eachC, show f i x () = _ from by simpa using h0, bsm]
  cases hp : p i x with
  | false => simp [bindC, hp]
  | true =>
   have := eachC_all (f := f) (p := p) xs (i + 1) (fun j y hy => by
    have := h (j + 1) y hy
    have e : i + ((j + 1 : Nat) : Int) = i + 1 + (j : Int) := by omega
    rw [e] at this; exact this)
   simp only [cond_true]
   rw [this]
   rw [List.zipIdx_cons, List.map_cons, List.all_cons]
   congr 1
   have e2 : xs.zipIdx 1 = xs.zipIdx.map fun y => (y.1, y.2 + 1) := by rw [List.zipIdx_eq_map_add]; simp [Nat.add_comm]
   rw [Nat.zero_add, e2, List.map_map]
   have e3 : p (i + ((0 : Nat) : Int)) x = true := by simpa using hp
   rw [id, e3, Bool.true_and]
   congr 1
   apply List.map_congr_left
   intro y _
   simp only [Function.comp]
   congr 1
   omega
theorem p104 (v : Int) : ∀ (s : List Int) (i : Int), 0 ≤ i → ∃ c, eachC (g104_3 v) s i () = some c ∧ ((v ∈ s ∧ ∃ j, c = .brk j ∧ 0 ≤ j) ∨ (v ∉ s ∧ c = .next ()))
 | [], i, h => ⟨.next (), rfl, .inr ⟨by simp, rfl⟩⟩
 | x :: xs, i, h => by
  rw [eachC]
  by_cases e : v = x
  ·subst e
   refine ⟨.brk i, by simp [g104_3, bsm], .inl ⟨by simp, i, rfl, h⟩⟩
  ·obtain ⟨c, h1, h2⟩ := p104 v xs (i + 1) (by omega)
   refine ⟨c, by simp only [g104_3, e, decide_false, cond_false, bsm]; exact h1, ?_⟩
   rcases h2 with ⟨h2, h3⟩ | ⟨h2, h3⟩
   ·exact .inl ⟨by simp [h2], h3⟩
   ·exact .inr ⟨by simp [h2, e], h3⟩
theorem p101 (s : List Int) (v : Int) : g101 s v = some (decide (v ∈ s)) := by
 unfold g101 g104
 obtain ⟨c, h1, h2⟩ := p104 v s 0 (by omega)
 rw [h1]
 rcases h2 with ⟨h2, j, rfl, h3⟩ | ⟨h2, rfl⟩
 ·simp [bindC, bsm, h2, h3]
 ·simp [bindC, bsm, h2]
def okTr (b : StandBook) (ns : List Int) (t : StandTrial) : Bool := decide (topL b (sm b z0 ns t.Weight t.Lean_) < 0) == t.Tipped
def fitsB (b : StandBook) (ns : List Int) (but : List Int) : Bool := (b.Trials.zipIdx.map fun y => decide ((y.2 : Int) ∈ but) || okTr b ns y.1).all id
theorem fits_nil (b : StandBook) (ns : List Int) : fitsB b ns [] = b.Trials.all (okTr b ns) := by
 unfold fitsB
 have : (fun (y : StandTrial × Nat) => decide ((y.2 : Int) ∈ ([] : List Int)) || okTr b ns y.1) = okTr b ns ∘ Prod.fst := by funext y; simp
 rw [this, ← List.map_map, List.zipIdx_map_fst, List.all_map]
 rfl
theorem p85 {b : StandBook} (hb : Sm b) (hp : b.Parts.length ≤ 4) (hT : ∀ t, t ∈ b.Trials → CB t.Weight t.Lean_) (ts : List (Nat → Int)) {w : Nat → Int} (hw : ∀ j, j < 4 → NB (w j)) (but : List Int) :
  g85 b ts ⟨0, 0, 0⟩ w but = some (fitsB b (wl b w) but) := by
 unfold g85
 rw [eachC_all (p := fun i t => decide (i ∈ but) || okTr b (wl b w) t) b.Trials 0]
 ·unfold fitsB; simp
 ·intro j t ht
  have hc := hT t (List.mem_of_getElem? ht)
  simp only [g85_3, p101, bsm]
  by_cases hm : (0 + (j : Int)) ∈ but
  ·have hm' : (j : Int) ∈ but := by simpa using hm
   simp [hm']
  ·simp only [hm, decide_false, Bool.not_false, cond_true, Bool.false_or]
   rw [show (Stand_load.mk 0 0 0) = z0 from rfl, p70 hb hp ts lb_z0 hw (c := ⟨t.Weight, t.Lean_⟩) hc, bsm]
   simp only [okTr]
   generalize (decide (topL b (sm b z0 (wl b w) t.Weight t.Lean_) < 0) == t.Tipped) = x
   cases x <;> rfl
theorem p102 {b : StandBook} (hb : Sm b) (hT : ∀ t, t ∈ b.Trials → CB t.Weight t.Lean_) {ns : List Int} (hl : ns.length ≤ b.Parts.length) (hn : ∀ n, n ∈ ns → NB n) :
  g102 b ns = some (b.Trials.all (okTr b ns)) := by
 unfold g102
 rw [eachC_all (p := fun i t => okTr b ns t) b.Trials 0]
 ·rw [← fits_nil]; unfold fitsB; simp
 ·intro j t ht
  have hc := hT t (List.mem_of_getElem? ht)
  simp only [g102_2]
  rw [p72 hb hl hn hc, bsm]
  simp only [okTr]
  generalize (decide (topL b (sm b z0 ns t.Weight t.Lean_) < 0) == t.Tipped) = x
  cases x <;> rfl
end Go.Proofs.YtibenpfnlajakaaDoor
namespace Go.Proofs.YtibenpfnlajakaaDoor
open Go.Abs Go.Proofs.Tz
structure VP (p : StandPart) : Prop where
 lo : 1 ≤ p.Weight.Low
 le : p.Weight.Low ≤ p.Weight.High
 hi : p.Weight.High ≤ 99
 few : p.Weight.High - p.Weight.Low ≤ 4
 bd : PB p
def cnt (p : StandPart) : Nat := (p.Weight.High + 1 - p.Weight.Low).toNat
def rng (p : StandPart) : List Int := (List.range' 0 (cnt p)).map fun (i : Nat) => p.Weight.Low + (i : Int)
def prods : List StandPart → List (List Int)
 | [] => [[]]
 | p :: ps => (rng p).flatMap fun n => (prods ps).map (n :: ·)
theorem rng_mem {p : StandPart} {n : Int} (h : n ∈ rng p) : p.Weight.Low ≤ n ∧ n ≤ p.Weight.High := by
 unfold rng at h
 rw [List.mem_map] at h
 obtain ⟨i, hi, rfl⟩ := h
 rw [List.mem_range'] at hi
 obtain ⟨j, hj, rfl⟩ := hi
 unfold cnt at hj
 omega
theorem cnt_le {p : StandPart} (h : VP p) : cnt p ≤ 5 := by have := h.few; unfold cnt; omega
theorem flat_len {α β : Type} (f : α → List β) (m : Nat) : ∀ (l : List α), (∀ x, x ∈ l → (f x).length ≤ m) → (l.flatMap f).length ≤ l.length * m
 | [], h => by simp
 | x :: l, h => by
  have := flat_len f m l (fun y hy => h y (by simp [hy]))
  have := h x (by simp)
  rw [List.flatMap_cons, List.length_append, List.length_cons, Nat.succ_mul]; omega
theorem prods_len : ∀ (ps : List StandPart), (∀ p, p ∈ ps → VP p) → (prods ps).length ≤ 5 ^ ps.length
 | [], h => by simp [prods]
 | p :: ps, h => by
  have h1 := prods_len ps (fun q hq => h q (by simp [hq]))
  have h2 := flat_len (fun n => (prods ps).map (n :: ·)) (5 ^ ps.length) (rng p) (fun x _ => by simpa using h1)
  have h3 : (rng p).length ≤ 5 := by simp [rng]; exact cnt_le (h p (by simp))
  rw [prods, List.length_cons, Nat.pow_succ, Nat.mul_comm (5 ^ ps.length)]
  exact Nat.le_trans h2 (Nat.mul_le_mul_right _ h3)
theorem roomB_ok {n b : Nat} (h : n * b ≤ 140737488355328) : roomB n b = true := Nat.ble_eq_true_of_le h
theorem p82 (l : List Int) (n : Int) (h : l.length ≤ 1000) : g82 l n = some (l ++ [n]) := by
 unfold g82
 have e : wr ((l.length : Int) + 1) = (l.length : Int) + 1 := wr_in (by omega) (by omega)
 rw [e]
 have : mkL2 8 0 ((l.length : Int) + 1) (0 : Int) = some [] := by
  unfold mkL2
  have : (decide ((0 : Int) ≤ 0) && (decide (0 ≤ (l.length : Int) + 1) && (decide (((8 : Nat) : Int) * ((l.length : Int) + 1) ≤ 281474976710656) && decide ((l.length : Int) + 1 ≤ 9223372036854775807)))) = true := by
   simp only [Bool.and_eq_true, decide_eq_true_eq]; omega
  rw [this]; rfl
 rw [this, bsm]
 unfold appL
 rw [roomB_ok (by simp; omega)]
 simp only [cond_true, bsm, List.nil_append]
 rw [roomB_ok (by simp; omega)]
 rfl
theorem forS_flat {β : Type} {f : Int → List β → Option (List β)} {q : Int → List β} (m K : Nat) (lo : Int) : ∀ (n i : Nat) (l : List β), (∀ j, i ≤ j → j < i + n → (q (lo + (j : Int))).length ≤ m ∧ ∀ l : List β, l.length ≤ K → f (lo + (j : Int)) l = some (l ++ q (lo + (j : Int)))) → l.length + n * m ≤ K →
  forS f n (lo + (i : Int)) l = some (l ++ (((List.range' i n).map fun (i : Nat) => lo + (i : Int)).flatMap q))
 | 0, i, l, h, hk => by simp [forS]
 | n + 1, i, l, h, hk => by
  rw [Nat.succ_mul] at hk
  obtain ⟨h1, h2⟩ := h i (Nat.le_refl _) (by omega)
  rw [forS, h2 l (by omega), bsm]
  have := forS_flat (f := f) (q := q) m K lo n (i + 1) (l ++ q (lo + (i : Int))) (fun j hj hj' => h j (by omega) (by omega)) (by rw [List.length_append]; omega)
  have e : lo + ((i + 1 : Nat) : Int) = lo + (i : Int) + 1 := by omega
  rw [e] at this
  rw [this, List.range'_succ, List.map_cons, List.flatMap_cons, List.append_assoc]
def rightB (b : StandBook) (ns : List Int) : Bool := b.Trials.all (okTr b ns)
theorem flatMap_filter {α β : Type} (p : β → Bool) (f : α → List β) : ∀ (l : List α), (l.flatMap f).filter p = l.flatMap fun x => (f x).filter p
 | [] => rfl
 | x :: l => by rw [List.flatMap_cons, List.filter_append, flatMap_filter p f l, List.flatMap_cons]
theorem p94 {b : StandBook} (hb : Sm b) (hv : ∀ p, p ∈ b.Parts → VP p) (hT : ∀ t, t ∈ b.Trials → CB t.Weight t.Lean_) : ∀ (r n : Nat) (some_ : List Int), some_.length + r = b.Parts.length → r + 1 ≤ n → (∀ x, x ∈ some_ → NB x) →
  g94 n b some_ = some (((prods (b.Parts.drop some_.length)).map (some_ ++ ·)).filter (rightB b))
 | 0, n, l, hl, hn, hx => by
  obtain ⟨n, rfl⟩ : ∃ k, n = k + 1 := ⟨n - 1, by omega⟩
  rw [g94]
  have e : decide ((l.length : Int) = (b.Parts.length : Int)) = true := by simp; omega
  have e2 : g102 b l = some (rightB b l) := p102 hb hT (by omega) hx
  rw [e, cond_true, e2, bsm, List.drop_eq_nil_of_le (by omega)]
  simp only [prods, List.map_cons, List.map_nil, List.append_nil, List.filter_cons, List.filter_nil]
  by_cases hq : rightB b l = true
  ·rw [if_pos hq, hq]; rfl
  ·rw [if_neg hq]; rw [Bool.not_eq_true] at hq; rw [hq]; rfl
 | r + 1, n, l, hl, hn, hx => by
  obtain ⟨n, rfl⟩ : ∃ k, n = k + 1 := ⟨n - 1, by omega⟩
  have hlt : l.length < b.Parts.length := by omega
  have hlen := hb.len
  rw [g94]
  have e : decide ((l.length : Int) = (b.Parts.length : Int)) = false := by simp; omega
  rw [e, cond_false, ixL_nat, List.getElem?_eq_getElem hlt, bsm]
  have hp := hv _ (List.getElem_mem hlt)
  generalize hpe : b.Parts[l.length] = p at hp
  have m1 : must (decide ((p.Weight.High + 1) ≤ 9223372036854775807)) = some () := by
   unfold must; rw [show decide ((p.Weight.High + 1) ≤ 9223372036854775807) = true from by have := hp.hi; simp; omega]; rfl
  have m2 : must (decide (-9223372036854775808 ≤ p.Weight.Low)) = some () := by
   unfold must; rw [show decide (-9223372036854775808 ≤ p.Weight.Low) = true from by have := hp.lo; simp; omega]; rfl
  rw [m1, m2]
  simp only [bsm]
  have key := forS_flat (f := g94_12 (g94 n) b l) (q := fun x => ((prods (b.Parts.drop (l.length + 1))).map ((l ++ [x]) ++ ·)).filter (rightB b)) 3125 100000 p.Weight.Low (cnt p) 0 [] (fun j _ hj => by
   have hr : NB (p.Weight.Low + (j : Int)) := by have := hp.lo; have := hp.hi; unfold cnt at hj; constructor <;> omega
   have hlen2 : (((prods (b.Parts.drop (l.length + 1))).map ((l ++ [p.Weight.Low + (j : Int)]) ++ ·)).filter (rightB b)).length ≤ 3125 := by
    refine Nat.le_trans (List.length_filter_le _ _) ?_
    rw [List.length_map]
    refine Nat.le_trans (prods_len _ (fun q hq => hv q (List.mem_of_mem_drop hq))) ?_
    have : (b.Parts.drop (l.length + 1)).length ≤ 5 := by rw [List.length_drop]; omega
    exact Nat.le_trans (Nat.pow_le_pow_right (by decide) this) (by decide)
   refine ⟨hlen2, fun l2 hl2 => ?_⟩
   simp only [g94_12]
   rw [p82 _ _ (by omega), bsm]
   have ih := p94 hb hv hT r n (l ++ [p.Weight.Low + (j : Int)]) (by simp; omega) (by omega) (fun x hx' => by
    rcases List.mem_append.1 hx' with h | h
    ·exact hx x h
    ·simp at h; subst h; exact hr)
   have e5 : (l ++ [p.Weight.Low + (j : Int)]).length = l.length + 1 := by simp
   rw [e5] at ih
   rw [ih, bsm]
   unfold appL
   rw [roomB_ok (by rw [List.length_append]; omega)]
   rfl) (by have := cnt_le hp; simp; omega)
  have e6 : p.Weight.Low + ((0 : Nat) : Int) = p.Weight.Low := by simp
  rw [e6] at key
  rw [show (p.Weight.High + 1 - p.Weight.Low).toNat = cnt p from rfl, key]
  simp only [bsm, List.nil_append]
  rw [List.drop_eq_getElem_cons hlt, hpe, prods]
  congr 1
  rw [show ((List.range' 0 (cnt p)).map fun (i : Nat) => p.Weight.Low + (i : Int)) = rng p from rfl, List.map_flatMap, flatMap_filter]
  congr 1
  funext x
  rw [List.map_map]
  congr 1
  apply List.map_congr_left
  intro y _
  simp
theorem p62 {b : StandBook} (hb : Sm b) (hv : ∀ p, p ∈ b.Parts → VP p) (hT : ∀ t, t ∈ b.Trials → CB t.Weight t.Lean_) : g62 b = some ((prods b.Parts).filter (rightB b)) := by
 unfold g62
 have hlen := hb.len
 rw [p94 hb hv hT b.Parts.length 1000 [] (by simp) (by omega) (fun x h => by cases h), bsm]
 simp
end Go.Proofs.YtibenpfnlajakaaDoor
namespace Go.Proofs.YtibenpfnlajakaaDoor
open Go.Abs Go.Proofs.Tz
def runY {A S : Type} (c : A → S → Option (S × Bool)) : List A → S → Option (S × Bool)
 | [], s => some (s, true)
 | a :: l, s => (c a s).bind fun r => bif r.2 then runY c l r.1 else some (r.1, false)
theorem runY_append {A S : Type} (c : A → S → Option (S × Bool)) : ∀ (l m : List A) (s : S), runY c (l ++ m) s = (runY c l s).bind fun r => bif r.2 then runY c m r.1 else some (r.1, false)
 | [], m, s => rfl
 | a :: l, m, s => by
  rw [List.cons_append, runY, runY]
  cases h : c a s with
  | none => rfl
  | some r =>
   rw [bsm, bsm]
   cases r.2 with
   | true => simp only [cond_true]; exact runY_append c l m r.1
   | false => rfl
def arrs : List StandPart → (Nat → Int) → Nat → List (Nat → Int)
 | [], w, _ => [w]
 | p :: ps, w, k => (rng p).flatMap fun n => arrs ps (aset w k n) (k + 1)
theorem aset_aset {α : Type} (w : Nat → α) (k : Nat) (x y : α) : aset (aset w k x) k y = aset w k y := by
 funext j
 unfold aset
 cases Nat.beq j k <;> rfl
theorem aset_at {α : Type} (w : Nat → α) (k : Nat) (x : α) : aset w k x k = x := by
 unfold aset
 rw [show Nat.beq k k = true from Nat.beq_refl k]; rfl
theorem aset_ne {α : Type} (w : Nat → α) {k j : Nat} (x : α) (h : j ≠ k) : aset w k x j = w j := by
 unfold aset
 cases hb : Nat.beq j k with
 | true => exact absurd (Nat.eq_of_beq_eq_true hb) h
 | false => rfl
theorem arrs_low : ∀ (ps : List StandPart) (w : Nat → Int) (k : Nat) (a : Nat → Int), a ∈ arrs ps w k → ∀ j, j < k → a j = w j
 | [], w, k, a, h, j, hj => by simp [arrs] at h; subst h; rfl
 | p :: ps, w, k, a, h, j, hj => by
  simp only [arrs, List.mem_flatMap] at h
  obtain ⟨n, hn, ha⟩ := h
  rw [arrs_low ps _ (k + 1) a ha j (by omega), aset_ne _ _ (by omega)]
theorem arrs_nb : ∀ (ps : List StandPart), (∀ p, p ∈ ps → VP p) → ∀ (w : Nat → Int) (k : Nat) (a : Nat → Int), (∀ j, NB (w j)) → a ∈ arrs ps w k → ∀ j, NB (a j)
 | [], hv, w, k, a, hw, h, j => by simp [arrs] at h; subst h; exact hw j
 | p :: ps, hv, w, k, a, hw, h, j => by
  simp only [arrs, List.mem_flatMap] at h
  obtain ⟨n, hn, ha⟩ := h
  have hr := rng_mem hn
  have hp := hv p (by simp)
  refine arrs_nb ps (fun q hq => hv q (by simp [hq])) _ (k + 1) a (fun j => ?_) ha j
  by_cases e : j = k
  ·subst e; rw [aset_at]; have := hp.lo; have := hp.hi; constructor <;> omega
  ·rw [aset_ne _ _ e]; exact hw j
theorem arrs_prods : ∀ (ps : List StandPart) (w : Nat → Int) (k : Nat), (arrs ps w k).map (fun a => (List.range' k ps.length).map a) = prods ps
 | [], w, k => rfl
 | p :: ps, w, k => by
  rw [arrs, prods, List.map_flatMap]
  congr 1
  funext n
  rw [← arrs_prods ps (aset w k n) (k + 1), List.map_map]
  apply List.map_congr_left
  intro a ha
  simp only [Function.comp, List.length_cons, List.range'_succ, List.map_cons]
  rw [arrs_low ps _ (k + 1) a ha k (by omega), aset_at]
section
variable {S : Type} (c : (Nat → Int) → S → Option (S × Bool)) (b : StandBook) (ts : List (Nat → Int)) (ll : Stand_load)
theorem p99_loop (n : Nat) (k : Nat) (p : StandPart) (ps : List StandPart) (hp : VP p) (w : Nat → Int) (hk : k < 4)
  (ih : ∀ (x : Int) (s : S), p.Weight.Low ≤ x → x ≤ p.Weight.High → g99 c n (aset w k x) ((k : Int) + 1) b ts ll s = (runY c (arrs ps (aset w k x) (k + 1)) s).map fun r => (r.2, r.1)) :
  ∀ (m i : Nat) (w' : Nat → Int) (s : S), i + m = cnt p → (∀ x, aset w' k x = aset w k x) →
   ∃ w'', forC (g99_12 (g99 c n) (k : Int) b ts ll p) m (i : Int) (s, w') = (runY c (((List.range' i m).map fun (j : Nat) => p.Weight.Low + (j : Int)).flatMap fun x => arrs ps (aset w k x) (k + 1)) s).map fun r => bif r.2 then .next (r.1, w'') else .brk (.brk (.brk (false, r.1)))
 | 0, i, w', s, hi, hw => ⟨w', rfl⟩
 | m + 1, i, w', s, hi, hw => by
  have h1 := hp.lo
  have h2 := hp.hi
  have hr : p.Weight.Low + (i : Int) ≤ p.Weight.High := by unfold cnt at hi; omega
  have e1 : wr (p.Weight.Low + (i : Int)) = p.Weight.Low + (i : Int) := wr_in (by omega) (by omega)
  have e2 : wr ((k : Int) + 1) = (k : Int) + 1 := wr_in (by omega) (by omega)
  obtain ⟨w'', h⟩ := p99_loop n k p ps hp w hk ih m (i + 1) (aset w' k (p.Weight.Low + (i : Int))) ((runY c (arrs ps (aset w k (p.Weight.Low + (i : Int))) (k + 1)) s).getD (s, true)).1 (by omega) (fun x => by rw [aset_aset, hw])
  refine ⟨w'', ?_⟩
  rw [forC]
  simp only [g99_12]
  rw [ixN_nat hk, bsm, e1, e2, hw, ih _ s (by omega) hr, List.range'_succ, List.map_cons, List.flatMap_cons, runY_append]
  cases hc : runY c (arrs ps (aset w k (p.Weight.Low + (i : Int))) (k + 1)) s with
  | none => rfl
  | some r =>
   obtain ⟨s', go⟩ := r
   rw [hc] at h
   cases go with
   | false => rfl
   | true =>
    simp only [Option.map_some, bsm, Bool.not_true, cond_false, cond_true]
    simp only [Option.getD_some] at h
    rw [hw] at h
    rw [show (i : Int) + 1 = ((i + 1 : Nat) : Int) by omega]
    exact h
theorem p99 (hb : Sm b) (hl4 : b.Parts.length ≤ 4) (hl1 : 1 ≤ b.Parts.length) (hv : ∀ p, p ∈ b.Parts → VP p) : ∀ (r n k : Nat) (w : Nat → Int) (s : S), k + r = b.Parts.length → r + 1 ≤ n → (1 ≤ k → 1 ≤ w 0) →
  g99 c n w (k : Int) b ts ll s = (runY c (arrs (b.Parts.drop k) w k) s).map fun r => (r.2, r.1)
 | 0, n, k, w, s, hk, hn, hw => by
  obtain ⟨n, rfl⟩ : ∃ m, n = m + 1 := ⟨n - 1, by omega⟩
  rw [g99]
  have e : decide ((k : Int) = (b.Parts.length : Int)) = true := by simp; omega
  have h0 : ((w 0) == 0) = false := by have := hw (by omega); simp; omega
  rw [e, cond_true]
  simp only [g100, bsm, show arrL [(0 : Int), 0, 0, 0] 0 = 0 from rfl, h0, Bool.false_and]
  rw [List.drop_eq_nil_of_le (by omega)]
  simp only [arrs, runY]
  cases c w s with
  | none => rfl
  | some q => obtain ⟨s', go⟩ := q; cases go <;> rfl
 | r + 1, n, k, w, s, hk, hn, hw => by
  obtain ⟨n, rfl⟩ : ∃ m, n = m + 1 := ⟨n - 1, by omega⟩
  have hlt : k < b.Parts.length := by omega
  rw [g99]
  have e : decide ((k : Int) = (b.Parts.length : Int)) = false := by simp; omega
  rw [e, cond_false, ixL_nat, List.getElem?_eq_getElem hlt, bsm]
  have hp := hv _ (List.getElem_mem hlt)
  rw [List.drop_eq_getElem_cons hlt]
  generalize b.Parts[k] = p at hp
  have h1 := hp.lo
  have h2 := hp.hi
  have h3 := hp.le
  have e1 : ((wr (wr (p.Weight.High - p.Weight.Low) + 1) : Int) - 0).toNat = cnt p := by
   rw [wr_in (show -9223372036854775808 ≤ p.Weight.High - p.Weight.Low by omega) (by omega), wr_in (by omega) (by omega)]
   unfold cnt; omega
  rw [e1]
  obtain ⟨w'', h⟩ := p99_loop c b ts ll n k p (b.Parts.drop (k + 1)) hp w (by omega) (fun x s hx hx' => by
   have := p99 hb hl4 hl1 hv r n (k + 1) (aset w k x) s (by omega) (by omega) (fun _ => by
    by_cases hk0 : k = 0
    ·subst hk0; rw [aset_at]; omega
    ·rw [aset_ne _ _ (by omega)]; exact hw (by omega))
   rw [← this]
   congr 1) (cnt p) 0 w s (by omega) (fun x => rfl)
  rw [show ((0 : Nat) : Int) = 0 from rfl] at h
  rw [h, arrs]
  rw [show ((List.range' 0 (cnt p)).map fun (j : Nat) => p.Weight.Low + (j : Int)) = rng p from rfl]
  cases runY c ((rng p).flatMap fun x => arrs (b.Parts.drop (k + 1)) (aset w k x) (k + 1)) s with
  | none => rfl
  | some q => obtain ⟨s', go⟩ := q; cases go <;> rfl
end
theorem runY_keep {A : Type} {f : A → List A → Option (List A)} {p : A → Bool} (K : Nat) (c : A → Ctl (List A) Unit → Option (Ctl (List A) Unit × Bool)) :
  ∀ (l : List A) (s : List A), (∀ a, a ∈ l → ∀ s : List A, s.length ≤ K → c a (.next s) = some (.next (s ++ bif p a then [a] else []), true)) → s.length + l.length ≤ K →
   runY c l (.next s) = some (.next (s ++ l.filter p), true)
 | [], s, h, hk => by simp [runY]
 | a :: l, s, h, hk => by
  simp only [List.length_cons] at hk
  rw [runY, h a (by simp) s (by omega), bsm]
  simp only [cond_true]
  rw [runY_keep (f := f) K c l _ (fun x hx => h x (by simp [hx])) (by rw [List.length_append]; cases p a <;> simp <;> omega), List.filter_cons]
  cases hp : p a <;> simp
def arr0 : Nat → Int := arrL [0, 0, 0, 0]
theorem arr0_nb (j : Nat) : NB (arr0 j) := by
 have : arr0 j = 0 := by
  match j with
  | 0 => rfl
  | 1 => rfl
  | 2 => rfl
  | 3 => rfl
  | j + 4 => rfl
 rw [this]; constructor <;> decide
def truths (b : StandBook) : List (Nat → Int) := (arrs b.Parts arr0 0).filter fun a => rightB b (wl b a)
theorem arrs_len (b : StandBook) (hv : ∀ p, p ∈ b.Parts → VP p) (h : b.Parts.length ≤ 4) : (arrs b.Parts arr0 0).length ≤ 625 := by
 have h1 := prods_len b.Parts hv
 rw [← arrs_prods b.Parts arr0 0, List.length_map] at h1
 exact Nat.le_trans h1 (Nat.le_trans (Nat.pow_le_pow_right (by decide) h) (by decide))
theorem p61 {b : StandBook} (hb : Sm b) (hl4 : b.Parts.length ≤ 4) (hl1 : 1 ≤ b.Parts.length) (hv : ∀ p, p ∈ b.Parts → VP p) (hT : ∀ t, t ∈ b.Trials → CB t.Weight t.Lean_) : g61 b = some (b, truths b, ⟨0, 0, 0⟩, []) := by
 unfold g61 g98
 simp only [g84, g100, bsm]
 have h := p99 (fun a s => rndC (g61_r4 b) a s) b [] ⟨0, 0, 0⟩ hb hl4 hl1 hv b.Parts.length 1000 0 arr0 (.next []) (by omega) (by omega) (fun h => by omega)
 rw [show ((0 : Nat) : Int) = 0 from rfl, List.drop_zero] at h
 rw [show arrL [(0 : Int), 0, 0, 0] = arr0 from rfl, h]
 have hk := runY_keep (f := fun _ _ => none) (p := fun a => rightB b (wl b a)) 100000 (fun a s => rndC (g61_r4 b) a s) (arrs b.Parts arr0 0) [] (fun a ha s hs => by
  have hnb := arrs_nb b.Parts hv arr0 0 a arr0_nb ha
  simp only [rndC, g61_r4]
  rw [p85 hb hl4 hT s (fun j _ => hnb j) [], fits_nil, bsm]
  rw [show b.Trials.all (okTr b (wl b a)) = rightB b (wl b a) from rfl]
  cases rightB b (wl b a) with
  | false => simp [bsm, isNext]
  | true =>
   unfold appL
   rw [roomB_ok (by simp; omega)]
   rfl) (by have := arrs_len b hv hl4; simp; omega)
 rw [hk]
 rfl
theorem truths_prods {b : StandBook} : (truths b).map (wl b) = (prods b.Parts).filter (rightB b) := by
 rw [← arrs_prods b.Parts arr0 0, List.filter_map]
 rfl
end Go.Proofs.YtibenpfnlajakaaDoor
namespace Go.Proofs.YtibenpfnlajakaaDoor
open Go.Abs Go.Proofs.Tz
structure Ok (b : StandBook) : Prop where
 sm : Sm b
 l4 : b.Parts.length ≤ 4
 l1 : 1 ≤ b.Parts.length
 vp : ∀ p, p ∈ b.Parts → VP p
 tr : ∀ t, t ∈ b.Trials → CB t.Weight t.Lean_
 lim : 1 ≤ b.Limit ∧ b.Limit ≤ 60
 lean : 0 ≤ b.Lean_ ∧ b.Lean_ ≤ 12
 nl : wr (-b.Lean_) = -b.Lean_
 t5 : b.Trials.length ≤ 5
theorem rg_iff {n a c : Int} : rg n a c = true ↔ a ≤ n ∧ n ≤ c := by simp [rg]
theorem okPart_vp {p : StandPart} (h : okPart p = true) : VP p := by
 simp only [okPart, Bool.and_eq_true, rg_iff, decide_eq_true_eq] at h
 obtain ⟨⟨⟨⟨⟨h1, h2⟩, h3⟩, h4⟩, h5⟩, h6⟩ := h
 rw [wr_in (by omega) (by omega)] at h4
 exact ⟨h1, h2, h3, h4, ⟨h5.1, h5.2⟩, ⟨by omega, h6.2⟩⟩
theorem ok_of {b : StandBook} (h : okB b = true) : Ok b := by
 simp only [okB, okHead, okTail, Bool.and_eq_true, rg_iff, decide_eq_true_eq, List.all_eq_true] at h
 obtain ⟨⟨⟨⟨⟨⟨⟨hk, hf⟩, hb⟩, hr⟩, hl⟩, ⟨⟨⟨⟨ha, hh⟩, hle⟩, hli⟩, ht⟩⟩, hp⟩, htr⟩ := h
 have hrad : Bd 200 b.Radius := by
  cases hd : decide (b.Kind = 1) <;> rw [hd] at hr
  ·simp only [cond_false, decide_eq_true_eq] at hr; rw [hr]; constructor <;> decide
  ·simp only [cond_true, rg_iff] at hr; exact ⟨by omega, by omega⟩
 have nl : wr (-b.Lean_) = -b.Lean_ := wr_in (by omega) (by omega)
 have vp : ∀ p, p ∈ b.Parts → VP p := fun p hm => okPart_vp (hp p hm)
 refine ⟨⟨by omega, ⟨by omega, by omega⟩, ⟨by omega, by omega⟩, hrad, ⟨by omega, by omega⟩, ⟨by omega, by omega⟩, fun p hm => (vp p hm).bd, by omega⟩, by omega, by omega, vp, fun t hm => ?_, hli, hle, nl, by omega⟩
 have := htr t hm
 simp only [okTrial, Bool.and_eq_true, rg_iff, nl] at this
 exact ⟨⟨by omega, by omega⟩, ⟨by omega, by omega⟩⟩
theorem p61' {b : StandBook} (h : Ok b) : g61 b = some (b, truths b, ⟨0, 0, 0⟩, []) := p61 h.sm h.l4 h.l1 h.vp h.tr
theorem p16 (b : StandBook) : g16 b = some (bif okB b then (decide (0 < ((truths b).length : Int)), 0) else (false, 20)) := by
 unfold g16
 rw [p18, bsm]
 cases h : okB b with
 | false => rfl
 | true => simp only [cond_true, p61' (ok_of h), bsm]; rfl
def tipB (b : StandBook) (weight lean : Int) (ns : List Int) : Bool := decide (topL b (sm b z0 ns weight lean) < 0)
def many (b : StandBook) (weight lean : Int) : Nat := ((truths b).filter fun a => tipB b weight lean (wl b a)).length
theorem must_t {x : Bool} (h : x = true) : must x = some () := by subst h; rfl
end Go.Proofs.YtibenpfnlajakaaDoor
namespace Go.Proofs.YtibenpfnlajakaaDoor
open Go.Abs Go.Proofs.Tz
def gcI (a c : Int) : Int := (Nat.gcd a.natAbs c.natAbs : Nat)
def MB (x : Int × Int) : Prop := Bd 2000000000 x.1 ∧ 1 ≤ x.2 ∧ x.2 ≤ 10000
def low (x : Int × Int) : StandRatio := ⟨wr (x.1.tdiv (gcI x.1 x.2)), wr (x.2.tdiv (gcI x.1 x.2))⟩
def mgL (b : StandBook) (l : Stand_load) (ns : List Int) (weight lean : Int) : Int × Int := (topL b (sm b l ns weight lean), (sm b l ns weight lean).1)
theorem min_bd {a x y : Int} (hx : Bd a x) (hy : Bd a y) : Bd a (min x y) := by
 obtain ⟨h1, h2⟩ := hx; obtain ⟨h3, h4⟩ := hy
 constructor <;> omega
theorem topL_bd {b : StandBook} (hb : Sm b) {s : Int × Int × Int} (h : SB 10 s) : Bd 2000000000 (topL b s) := by
 have h1 := Bd.mul hb.back h.1
 have h2 := Bd.mul hb.front h.1
 have h0 := Bd.mul hb.radius h.1
 have h3 := Bd.mul hb.radius h.2.1
 have hd := h0.sub h.2.2
 have h4 := Bd.mul hb.back hd
 have h5 := Bd.mul hb.front hd
 unfold topL
 cases decide (b.Kind = 0) with
 | true => exact min_bd ((h1.add h.2.1).mono (by omega)) ((h2.sub h.2.1).mono (by omega))
 | false => exact min_bd ((h4.add h3).mono (by omega)) ((h5.sub h3).mono (by omega))
theorem ld_pos : ∀ (ps : List StandPart) (ns : List Int) (s : Int × Int × Int), (∀ n, n ∈ ns → 0 ≤ n) → s.1 ≤ (ld ps ns s).1
 | [], ns, s, h => by simp [ld]
 | p :: ps, [], s, h => by simp [ld]
 | p :: ps, n :: ns, s, h => by
  have := ld_pos ps ns (s.1 + n, s.2.1 + n * p.Along, s.2.2 + n * p.High) (fun x hx => h x (by simp [hx]))
  have h0 := h n (by simp)
  rw [ld]; simp only at this; omega
theorem mgL_mb {b : StandBook} (hb : Sm b) {l : Stand_load} (hl : LB l) (hl0 : 0 ≤ l.weight) {ns : List Int} (hn : ∀ n, n ∈ ns → NB n ∧ 0 ≤ n) {weight lean : Int} (hc : CB weight lean) (hw : 1 ≤ weight) : MB (mgL b l ns weight lean) := by
 have hs := sm_sb hb hl (fun n h => (hn n h).1) hc
 have h1 := ld_pos b.Parts ns (s0 b l weight lean) (fun n h => (hn n h).2)
 refine ⟨topL_bd hb hs, ?_, ?_⟩
 ·have : (s0 b l weight lean).1 = l.weight + weight := rfl
  unfold mgL sm; simp only; omega
 ·have := hs.1.2; unfold mgL; simp only; omega
def mstep {α : Type} (f : α → Int × Int) (st : Int × Int) (a : α) : Int × Int := bif decide ((f a).1 * st.2 < st.1 * (f a).2) then f a else st
def leastM {α : Type} (f : α → Int × Int) : List α → Int × Int
 | [] => (0, 0)
 | a :: l => l.foldl (mstep f) (f a)
theorem mstep_mb {α : Type} {f : α → Int × Int} {st : Int × Int} {a : α} (h : MB st) (ha : MB (f a)) : MB (mstep f st a) := by
 unfold mstep; cases decide ((f a).1 * st.2 < st.1 * (f a).2) <;> assumption
theorem mb_wr {x y : Int × Int} (hx : MB x) (hy : MB y) : wr (x.1 * y.2) = x.1 * y.2 := by
 have : Bd 10000 y.2 := ⟨by have := hy.2.1; omega, hy.2.2⟩
 exact (Bd.mul hx.1 this).wr (by omega)
theorem eachS_fold {α S : Type} {f : Int → α → S → Option S} {g : S → α → S} {I : S → Prop} : ∀ (xs : List α) (i : Nat) (s : S), (∀ (j : Nat) a, i ≤ j → a ∈ xs → ∀ s, I s → f (j : Int) a s = some (g s a) ∧ I (g s a)) → I s → eachS f xs (i : Int) s = some (xs.foldl g s)
 | [], i, s, h, hs => rfl
 | a :: xs, i, s, h, hs => by
  obtain ⟨h1, h2⟩ := h i a (Nat.le_refl _) (by simp) s hs
  rw [eachS, h1, bsm, List.foldl_cons]
  have := eachS_fold xs (i + 1) (g s a) (fun j b hj hb => h j b (by omega) (by simp [hb])) h2
  rw [show (i : Int) + 1 = ((i + 1 : Nat) : Int) by omega]
  exact this
end Go.Proofs.YtibenpfnlajakaaDoor
namespace Go.Proofs.YtibenpfnlajakaaDoor
open Go.Abs Go.Proofs.Tz
section
variable {b : StandBook} {l : Stand_load}
theorem p73_core (hb : Sm b) (ts : List (Nat → Int)) {s : Int × Int × Int} (hs : SB 10 s) (hmb : MB (topL b s, s.1)) (v T B : Int) (hst : v = 0 ∨ MB (T, B)) :
  (((ixN 2 b.Kind).bind fun j => match j with | 0 => (g121 b ts l ⟨s.1, s.2.1, s.2.2⟩).bind fun r0_1 => some r0_1 | 1 => (g122 b ts l ⟨s.1, s.2.1, s.2.2⟩).bind fun r0_1_1 => some r0_1_1 | _ => none).bind fun Top1 => (bif (decide (v = 0)) then (some true) else ((g103 (StandRatio.mk Top1 s.1) (StandRatio.mk T B)).bind fun r0_2 => some r0_2)).bind fun v1 => bif v1 then (some (Top1, s.1)) else (some (T, B))) =
   some (bif decide (v = 0) then (topL b s, s.1) else bif decide (topL b s * B < T * s.1) then (topL b s, s.1) else (T, B)) := by
 obtain ⟨w, m, h⟩ := s
 simp only at hmb ⊢
 have e : ((ixN 2 b.Kind).bind fun j => match j with | 0 => (g121 b ts l ⟨w, m, h⟩).bind fun r0_1 => some r0_1 | 1 => (g122 b ts l ⟨w, m, h⟩).bind fun r0_1_1 => some r0_1_1 | _ => none) = some (topL b (w, m, h)) := by
  rcases hb.kind with hk | hk
  ·rw [hk, show ixN 2 0 = some 0 from rfl]
   simp only [bsm]
   rw [p121 hb hk ts l hs]; rfl
  ·rw [hk, show ixN 2 1 = some 1 from rfl]
   simp only [bsm]
   rw [p122 hb hk ts l hs]; rfl
 refine Eq.trans (congrArg (fun o => Option.bind o _) e) ?_
 rw [bsm]
 by_cases hv : v = 0
 ·simp only [hv, decide_true, cond_true, bsm]
 ·have hst' : MB (T, B) := by rcases hst with h | h; exact absurd h hv; exact h
  simp only [decide_eq_false hv, cond_false, g103, bsm]
  have e1 : wr (topL b (w, m, h) * B) = topL b (w, m, h) * B := mb_wr (x := (topL b (w, m, h), w)) hmb hst'
  have e2 : wr (T * w) = T * w := mb_wr (y := (topL b (w, m, h), w)) hst' hmb
  rw [e1, e2]
  cases decide (topL b (w, m, h) * B < T * w) <;> rfl
theorem p73_step (hb : Sm b) (hp4 : b.Parts.length ≤ 4) (hl : LB l) (hl0 : 0 ≤ l.weight) (ts : List (Nat → Int)) {c : Stand_child} (hc : CB c.weight c.lean) (hw : 1 ≤ c.weight) {a : Nat → Int} (ha : ∀ j, NB (a j) ∧ 0 ≤ a j) (v : Int) (st : Int × Int) (hst : v = 0 ∨ MB st) :
  g73a_8 b ts l c v a st = some (bif decide (v = 0) then mgL b l (wl b a) c.weight c.lean else mstep (fun a => mgL b l (wl b a) c.weight c.lean) st a) := by
 have hn : ∀ n, n ∈ wl b a → NB n ∧ 0 ≤ n := by
  intro n hn
  unfold wl at hn
  rw [List.mem_map] at hn
  obtain ⟨j, _, rfl⟩ := hn
  exact ha j
 have hmb := mgL_mb hb hl hl0 hn hc hw
 have hs := sm_sb hb hl (fun n h => (hn n h).1) hc
 obtain ⟨T, B⟩ := st
 simp only [g73a_8]
 rw [p95 hb hp4 ts hl (fun j _ => (ha j).1) hc, bsm]
 exact p73_core hb ts hs hmb v T B hst
theorem p73_loop (hb : Sm b) (hp4 : b.Parts.length ≤ 4) (hl : LB l) (hl0 : 0 ≤ l.weight) (ts : List (Nat → Int)) (hts : ∀ a, a ∈ ts → ∀ j, NB (a j) ∧ 0 ≤ a j) {c : Stand_child} (hc : CB c.weight c.lean) (hw : 1 ≤ c.weight) (hne : ts ≠ []) :
  eachS (g73a_8 b ts l c) ts 0 (0, 0) = some (leastM (fun a => mgL b l (wl b a) c.weight c.lean) ts) ∧ MB (leastM (fun a => mgL b l (wl b a) c.weight c.lean) ts) := by
 have hmb : ∀ a, a ∈ ts → MB (mgL b l (wl b a) c.weight c.lean) := fun a ha => mgL_mb hb hl hl0 (fun n hn => by
  unfold wl at hn
  rw [List.mem_map] at hn
  obtain ⟨j, _, rfl⟩ := hn
  exact hts a ha j) hc hw
 have hfold : ∀ (xs : List (Nat → Int)), (∀ a, a ∈ xs → a ∈ ts) → ∀ st, MB st → MB (xs.foldl (mstep fun a => mgL b l (wl b a) c.weight c.lean) st) := by
  intro xs
  induction xs with
  | nil => intro _ st h; exact h
  | cons a xs ih => intro h st hst; exact ih (fun x hx => h x (by simp [hx])) _ (mstep_mb hst (hmb a (h a (by simp))))
 cases hts' : ts with
 | nil => exact absurd hts' hne
 | cons a rest =>
  have ha : a ∈ ts := by rw [hts']; simp
  have hr : ∀ x, x ∈ rest → x ∈ ts := fun x hx => by rw [hts']; simp [hx]
  rw [← hts']
  refine ⟨?_, by rw [hts']; exact hfold rest hr _ (hmb a ha)⟩
  conv => lhs; arg 2; rw [hts']
  rw [eachS, p73_step hb hp4 hl hl0 ts hc hw (hts a ha) 0 (0, 0) (.inl rfl), bsm]
  simp only [decide_true, cond_true]
  have := eachS_fold (f := g73a_8 b ts l c) (g := mstep fun a => mgL b l (wl b a) c.weight c.lean) (I := MB) rest 1 (mgL b l (wl b a) c.weight c.lean) (fun j x hj hx s hs => by
   refine ⟨?_, mstep_mb hs (hmb x (hr x hx))⟩
   rw [p73_step hb hp4 hl hl0 ts hc hw (hts x (hr x hx)) (j : Int) s (.inr hs)]
   have : decide ((j : Int) = 0) = false := by simp; omega
   rw [this]; rfl) (hmb a ha)
  rw [show (0 : Int) + 1 = ((1 : Nat) : Int) from rfl, this, hts']
  rfl
end
end Go.Proofs.YtibenpfnlajakaaDoor
namespace Go.Proofs.YtibenpfnlajakaaDoor
open Go.Abs Go.Proofs.Tz
theorem stood_ok : g24 = some true := by kernel_rfl
end Go.Proofs.YtibenpfnlajakaaDoor
namespace Go.Proofs.YtibenpfnlajakaaDoor
open Go.Abs Go.Proofs.Tz
theorem fold_least {α : Type} (f : α → Int × Int) : ∀ (xs : List α) (st : Int × Int), 1 ≤ st.2 → (∀ a, a ∈ xs → 1 ≤ (f a).2) →
  1 ≤ (xs.foldl (mstep f) st).2 ∧ ((xs.foldl (mstep f) st).1 < 0 ↔ st.1 < 0 ∨ ∃ a, a ∈ xs ∧ (f a).1 < 0)
 | [], st, h, hx => by simp [h]
 | a :: xs, st, h, hx => by
  have ha := hx a (by simp)
  have h1 : 1 ≤ (mstep f st a).2 := by unfold mstep; cases decide ((f a).1 * st.2 < st.1 * (f a).2) <;> assumption
  obtain ⟨i1, i2⟩ := fold_least f xs (mstep f st a) h1 (fun b hb => hx b (by simp [hb]))
  refine ⟨i1, ?_⟩
  rw [List.foldl_cons, i2]
  have key : (mstep f st a).1 < 0 ↔ st.1 < 0 ∨ (f a).1 < 0 := by
   unfold mstep
   by_cases hd : (f a).1 * st.2 < st.1 * (f a).2
   ·rw [decide_eq_true hd]
    simp only [cond_true]
    refine ⟨.inr, fun hh => ?_⟩
    rcases hh with hh | hh
    ·by_cases h0 : (f a).1 < 0
     ·exact h0
     ·have e1 : 0 ≤ (f a).1 * st.2 := Int.mul_nonneg (by omega) (by omega)
      have e2 : st.1 * (f a).2 < 0 := Int.mul_neg_of_neg_of_pos hh (by omega)
      omega
    ·exact hh
   ·rw [decide_eq_false hd]
    simp only [cond_false]
    refine ⟨.inl, fun hh => ?_⟩
    rcases hh with hh | hh
    ·exact hh
    ·by_cases h0 : st.1 < 0
     ·exact h0
     ·have e1 : 0 ≤ st.1 * (f a).2 := Int.mul_nonneg (by omega) (by omega)
      have e2 : (f a).1 * st.2 < 0 := Int.mul_neg_of_neg_of_pos hh (by omega)
      omega
  rw [key]
  simp only [List.mem_cons, exists_eq_or_imp, or_assoc]
theorem low_top {x : Int × Int} (h : MB x) : ∃ k : Int, x.1 = gcI x.1 x.2 * k ∧ (low x).Top = k ∧ 0 < gcI x.1 x.2 := by
 have hg : 0 < gcI x.1 x.2 := by
  have : 0 < Nat.gcd x.1.natAbs x.2.natAbs := Nat.gcd_pos_of_pos_right _ (by have := h.2.1; omega)
  unfold gcI; omega
 have hd : gcI x.1 x.2 ∣ x.1 := by
  unfold gcI
  exact Int.natAbs_dvd_natAbs.1 (by simpa using Nat.gcd_dvd_left x.1.natAbs x.2.natAbs)
 obtain ⟨k, hk⟩ := hd
 generalize hgg : gcI x.1 x.2 = g at hk hg
 refine ⟨k, hk, ?_, hg⟩
 have e : x.1.tdiv g = k := by rw [hk]; exact Int.mul_tdiv_cancel_left k (by omega)
 have hb : Bd 2000000000 k := by
  obtain ⟨⟨h1, h2⟩, _⟩ := h
  have : k.natAbs ≤ x.1.natAbs := by
   rw [hk, Int.natAbs_mul]
   exact Nat.le_mul_of_pos_left _ (by omega)
  constructor <;> omega
 show wr (x.1.tdiv (gcI x.1 x.2)) = k
 rw [hgg, e, hb.wr (by omega)]
theorem low_neg {x : Int × Int} (h : MB x) : (low x).Top < 0 ↔ x.1 < 0 := by
 obtain ⟨k, h1, h2, h3⟩ := low_top h
 rw [h2]
 constructor
 ·intro hk
  rw [h1]
  exact Int.mul_neg_of_pos_of_neg h3 hk
 ·intro hx
  by_cases hk : k < 0
  ·exact hk
  ·have := Int.mul_nonneg (Int.le_of_lt h3) (show 0 ≤ k by omega)
   omega
end Go.Proofs.YtibenpfnlajakaaDoor
namespace Go.Proofs.YtibenpfnlajakaaDoor
open Go.Abs Go.Proofs.Tz
structure Wd (b : StandBook) (l : Stand_load) (ts : List (Nat → Int)) (mg : Stand_child → StandRatio) : Prop where
 sb : Sm b
 p4 : b.Parts.length ≤ 4
 lb : LB l
 l0 : 0 ≤ l.weight
 nb : ∀ a, a ∈ ts → ∀ j, NB (a j) ∧ 0 ≤ a j
 ne : ts ≠ []
 is : ∀ c : Stand_child, CB c.weight c.lean → 1 ≤ c.weight → mg c = low (leastM (fun a => mgL b l (wl b a) c.weight c.lean) ts)
 hle : 0 ≤ b.Lean_ ∧ b.Lean_ ≤ 12
 rad : 0 ≤ b.Radius
section
variable {b : StandBook} {l : Stand_load} {ts : List (Nat → Int)} {mg : Stand_child → StandRatio}
theorem Wd.neg (h : Wd b l ts mg) {c : Stand_child} (hc : CB c.weight c.lean) (hw : 1 ≤ c.weight) : (mg c).Top < 0 ↔ ∃ a, a ∈ ts ∧ topL b (sm b l (wl b a) c.weight c.lean) < 0 := by
 rw [h.is c hc hw]
 obtain ⟨_, hmb⟩ := p73_loop h.sb h.p4 h.lb h.l0 ts h.nb hc hw h.ne
 rw [low_neg hmb]
 have hp : ∀ a, a ∈ ts → 1 ≤ (mgL b l (wl b a) c.weight c.lean).2 := fun a ha => (mgL_mb h.sb h.lb h.l0 (fun n hn => by
  unfold wl at hn
  rw [List.mem_map] at hn
  obtain ⟨j, _, rfl⟩ := hn
  exact h.nb a ha j) hc hw).2.1
 cases hts : ts with
 | nil => exact absurd hts h.ne
 | cons a rest =>
  have := (fold_least (fun a => mgL b l (wl b a) c.weight c.lean) rest _ (hp a (by rw [hts]; simp)) (fun x hx => hp x (by rw [hts]; simp [hx]))).2
  refine Iff.trans this ?_
  simp only [List.mem_cons, exists_eq_or_imp]
  rfl
end
end Go.Proofs.YtibenpfnlajakaaDoor
namespace Go.Proofs.YtibenpfnlajakaaDoor
open Go.Abs Go.Proofs.Tz
def firstI (p : Int → Bool) : Nat → Int → Option Int
 | 0, _ => none
 | n + 1, i => bif p i then some i else firstI p n (i + 1)
end Go.Proofs.YtibenpfnlajakaaDoor
namespace Go.Proofs.YtibenpfnlajakaaDoor
open Go.Abs Go.Proofs.Tz
section
variable {x : StandBook} {l : List (List Int)}
end
def ext (q : Int → Bool) (L : Int) : Int := match firstI (fun v => !q v) L.toNat 1 with | some j => j - 1 | none => L
end Go.Proofs.YtibenpfnlajakaaDoor
namespace Go.Proofs.YtibenpfnlajakaaDoor
open Go.Abs Go.Proofs.Tz
theorem appL_ok {α : Type} {sz : Nat} {l m : List α} (h : (l ++ m).length * sz ≤ 140737488355328) : appL sz l m = some (l ++ m) := by
 unfold appL
 rw [roomB_ok h]; rfl
end Go.Proofs.YtibenpfnlajakaaDoor
set_option maxRecDepth 100000
namespace Go.Proofs.YtibenpfnlajakaaDoor
open Go.Abs Go.Proofs.Tz
theorem e85a : @g85a = @g85 := rfl
theorem e99a12 {S : Type} : @g99a_12 S = @g99_12 S := rfl
theorem e99a {S : Type} (c : (Nat → Int) → S → Option (S × Bool)) : ∀ n, g99a c n = g99 c n
 | 0 => rfl
 | n + 1 => by
  funext w k b ts l s
  rw [g99a, g99, e99a12, e99a c n]
theorem e98a {S : Type} : @g98a S = @g98 S := by
 funext c b ts l s
 unfold g98a g98
 rw [e99a]
def flatI {α : Type} (g : Int → List α) : Nat → Int → List α
 | 0, _ => []
 | n + 1, i => g i ++ flatI g n (i + 1)
def combs (T : Nat) : Nat → List Int → Int → List (List Int)
 | 0, s, _ => [s]
 | r + 1, s, a => flatI (fun n => combs T r (s ++ [n]) (n + 1)) ((T : Int) - a).toNat a
def enumT (T : Nat) : List (List Int) := flatI (fun m => combs T m.toNat [] 0) (T + 1) 0
theorem forC_find {α S R : Type} {f : Int → S → Option (Ctl S R)} (g : Int → List α) (p : α → Bool) (r : α → R) (s : S) : ∀ (n : Nat) (i : Int), (∀ j, i ≤ j → j < i + n → f j s = some (match (g j).find? p with | some l => .brk (r l) | none => .next s)) →
  forC f n i s = some (match (flatI g n i).find? p with | some l => .brk (r l) | none => .next s)
 | 0, i, h => rfl
 | n + 1, i, h => by
  rw [forC, h i (by omega) (by omega), flatI, List.find?_append]
  cases (g i).find? p with
  | some l => rfl
  | none => exact forC_find g p r s n (i + 1) (fun j h1 h2 => h j (by omega) (by omega))
def canB (b : StandBook) (but : List Int) : Bool := (prods b.Parts).any fun ns => fitsB b ns but
theorem runY_any {A : Type} {q : A → Bool} (c : A → Ctl Unit Unit → Option (Ctl Unit Unit × Bool)) : ∀ (l : List A), (∀ a, a ∈ l → c a (.next ()) = some (bif q a then (.brk (), false) else (.next (), true))) →
  runY c l (.next ()) = some (bif l.any q then (.brk (), false) else (.next (), true))
 | [], h => rfl
 | a :: l, h => by
  rw [runY, h a (by simp), bsm, List.any_cons]
  cases q a with
  | true => rfl
  | false => exact runY_any c l (fun x hx => h x (by simp [hx]))
theorem p83_leaf {b : StandBook} (h : Ok b) (some_ : List Int) : ((g98 (fun a s => rndC (g83_r7 some_ b [] z0) a s) b [] z0 (.next ())).bind fun out => match out with | .next _ => some (([] : List Int), false) | .brk _ => some (some_, true)) = some (bif canB b some_ then (some_, true) else ([], false)) := by
 unfold g98
 simp only [g100, bsm]
 have hh := p99 (fun a s => rndC (g83_r7 some_ b [] z0) a s) b [] z0 h.sm h.l4 h.l1 h.vp b.Parts.length 1000 0 arr0 (.next ()) (by omega) (by have := h.l4; omega) (fun h => by omega)
 rw [show ((0 : Nat) : Int) = 0 from rfl, List.drop_zero] at hh
 rw [show arrL [(0 : Int), 0, 0, 0] = arr0 from rfl, hh]
 have hk := runY_any (q := fun a => fitsB b (wl b a) some_) (fun a s => rndC (g83_r7 some_ b [] z0) a s) (arrs b.Parts arr0 0) (fun a ha => by
  have hnb := arrs_nb b.Parts h.vp arr0 0 a arr0_nb ha
  simp only [rndC, g83_r7, e85a]
  rw [show z0 = Stand_load.mk 0 0 0 from rfl, p85 h.sm h.l4 h.tr [] (fun j _ => hnb j) some_, bsm]
  cases fitsB b (wl b a) some_ <;> rfl)
 rw [hk]
 have e : (arrs b.Parts arr0 0).any (fun a => fitsB b (wl b a) some_) = canB b some_ := by
  unfold canB
  rw [← arrs_prods b.Parts arr0 0, List.any_map]
  rfl
 rw [e]
 cases canB b some_ <;> rfl
theorem slcL_all {α : Type} (l : List α) : slcL l 0 (l.length : Int) = some l := by
 unfold slcL
 have : (decide ((0 : Int) ≤ 0) && (decide ((0 : Int) ≤ (l.length : Int)) && decide ((l.length : Int) ≤ (l.length : Int)))) = true := by simp
 rw [this]; simp
theorem p83 {b : StandBook} (h : Ok b) : ∀ (r n : Nat) (s : List Int) (many from_ : Int), (s.length : Int) + r = many → r + 1 ≤ n → many ≤ 5 → 0 ≤ from_ →
  (bif decide (0 < (s.length : Int)) then ((ixL s (wr ((s.length : Int) - 1))).bind fun p => some (wr (p + 1))) else some 0) = some from_ →
  g83 n s many b [] z0 b = some (match (combs b.Trials.length r s from_).find? (canB b) with | some l => (l, true) | none => ([], false))
 | 0, n, s, many, from_, hm, hn, h5, hf, he => by
  obtain ⟨n, rfl⟩ : ∃ k, n = k + 1 := ⟨n - 1, by omega⟩
  rw [g83, decide_eq_true (show (s.length : Int) = many by omega), cond_true]
  simp only [g84a, bsm, e98a]
  refine Eq.trans (p83_leaf h s) ?_
  simp only [combs, List.find?_cons, List.find?_nil]
  cases canB b s <;> rfl
 | r + 1, n, s, many, from_, hm, hn, h5, hf, he => by
  obtain ⟨n, rfl⟩ : ∃ k, n = k + 1 := ⟨n - 1, by omega⟩
  rw [g83, decide_eq_false (show ¬ (s.length : Int) = many by omega), cond_false, he, bsm, must_t (by simp; omega), bsm]
  have := forC_find (f := g83_18 (g83 n) s many b [] z0 b) (fun m => combs b.Trials.length r (s ++ [m]) (m + 1)) (canB b) (fun l => .brk (.brk (l, true))) () ((b.Trials.length : Int) - from_).toNat from_ (fun j h1 h2 => by
   have ht := h.t5
   unfold g83_18
   rw [slcL_all, bsm, appL_ok (by rw [List.length_append, List.length_singleton]; omega), bsm]
   rw [p83 h r n (s ++ [j]) many (j + 1) (by rw [List.length_append, List.length_singleton]; omega) (by omega) h5 (by omega) (by
    rw [List.length_append, List.length_singleton, decide_eq_true (by omega), cond_true, wr_in (by omega) (by omega), show ((s.length + 1 : Nat) : Int) - 1 = ((s.length : Nat) : Int) by omega, ixL_nat]
    simp only [List.getElem?_concat_length, bsm]
    rw [wr_in (by omega) (by omega)]), bsm]
   cases (combs b.Trials.length r (s ++ [j]) (j + 1)).find? (canB b) <;> rfl)
  rw [this, combs]
  cases (flatI (fun m => combs b.Trials.length r (s ++ [m]) (m + 1)) ((b.Trials.length : Int) - from_).toNat from_).find? (canB b) <;> rfl
def wrongT (b : StandBook) : List Int × Int := bif okB b then (((enumT b.Trials.length).find? (canB b)).getD [], 0) else ([], 20)
theorem p35 (b : StandBook) : g35 b = some (wrongT b) := by
 unfold g35 wrongT
 rw [p18, bsm]
 cases hok : okB b with
 | false => rfl
 | true =>
  have h := ok_of hok
  have ht := h.t5
  simp only [cond_true]
  have := forC_find (f := g35_7 b) (fun m => combs b.Trials.length m.toNat [] 0) (canB b) (fun l => (l, (0 : Int))) (([], 0, 0, 0) : (List (Nat → Int)) × Int × Int × Int) (b.Trials.length + 1) 0 (fun j h1 h2 => by
   simp only [g35_7]
   rw [show (Stand_load.mk 0 0 0) = z0 from rfl, p83 h j.toNat 1000 [] j 0 (by simp; omega) (by omega) (by omega) (by omega) rfl, bsm]
   cases (combs b.Trials.length j.toNat [] 0).find? (canB b) with
   | none => rfl
   | some l => simp only [cond_true, slcL_all, bsm])
  rw [wr_in (by omega) (by omega), show (((b.Trials.length : Int) + 1) - 0).toNat = b.Trials.length + 1 by omega]
  refine Eq.trans (congrArg (fun o => bindC o _) this) ?_
  rw [show flatI (fun m => combs b.Trials.length m.toNat [] 0) (b.Trials.length + 1) 0 = enumT b.Trials.length from rfl]
  cases (enumT b.Trials.length).find? (canB b) <;> rfl
def LT (T s : Nat) : List Int := (g53 (s : Int) (T : Int)).getD []
def idx (T s : Nat) : Nat := (enumT T).findIdx (· == LT T s)
theorem fact53 : ((List.range 6).all fun T => (List.range (2 ^ T)).all fun s => g53 (s : Int) (T : Int) == some (LT T s)) = true := by kernel_rfl
theorem fact54 : ((List.range 6).all fun T => (List.range (2 ^ T)).all fun s => (List.range (2 ^ T)).all fun t => g54 (LT T s) (LT T t) == some (decide (idx T s < idx T t))) = true := by kernel_rfl
theorem fact92 : ((List.range 6).all fun T => (List.range (2 ^ T)).all fun s => (List.range T).all fun i => g92 (s : Int) (i : Int) == some (decide ((i : Int) ∈ LT T s))) = true := by kernel_rfl
theorem factE : ((List.range 6).all fun T => (List.range (2 ^ T)).all fun s => (enumT T)[idx T s]? == some (LT T s)) = true := by kernel_rfl
theorem factI : ((List.range 6).all fun T => (List.range (enumT T).length).all fun j => (List.range (2 ^ T)).any fun s => idx T s == j) = true := by kernel_rfl
theorem factF : ((List.range 6).all fun T => (List.range T).all fun i => decide ((i : Int) ∈ LT T (2 ^ T - 1))) = true := by kernel_rfl
theorem factS : ((List.range 6).all fun T => shl64 1 (T : Int) == ((2 ^ T : Nat) : Int)) = true := by kernel_rfl
end Go.Proofs.YtibenpfnlajakaaDoor
namespace Go.Proofs.YtibenpfnlajakaaDoor
open Go.Abs Go.Proofs.Tz
section
variable {T s t : Nat}
theorem f53 (hT : T ≤ 5) (hs : s < 2 ^ T) : g53 (s : Int) (T : Int) = some (LT T s) := by
 have := fact53
 rw [List.all_eq_true] at this
 have := this T (List.mem_range.2 (by omega))
 rw [List.all_eq_true] at this
 exact eq_of_beq (this s (List.mem_range.2 hs))
theorem f54 (hT : T ≤ 5) (hs : s < 2 ^ T) (ht : t < 2 ^ T) : g54 (LT T s) (LT T t) = some (decide (idx T s < idx T t)) := by
 have := fact54
 rw [List.all_eq_true] at this
 have := this T (List.mem_range.2 (by omega))
 rw [List.all_eq_true] at this
 have := this s (List.mem_range.2 hs)
 rw [List.all_eq_true] at this
 exact eq_of_beq (this t (List.mem_range.2 ht))
theorem f92 (hT : T ≤ 5) (hs : s < 2 ^ T) {i : Nat} (hi : i < T) : g92 (s : Int) (i : Int) = some (decide ((i : Int) ∈ LT T s)) := by
 have := fact92
 rw [List.all_eq_true] at this
 have := this T (List.mem_range.2 (by omega))
 rw [List.all_eq_true] at this
 have := this s (List.mem_range.2 hs)
 rw [List.all_eq_true] at this
 exact eq_of_beq (this i (List.mem_range.2 hi))
theorem fE (hT : T ≤ 5) (hs : s < 2 ^ T) : (enumT T)[idx T s]? = some (LT T s) := by
 have := factE
 rw [List.all_eq_true] at this
 have := this T (List.mem_range.2 (by omega))
 rw [List.all_eq_true] at this
 exact eq_of_beq (this s (List.mem_range.2 hs))
theorem fI (hT : T ≤ 5) {j : Nat} (hj : j < (enumT T).length) : ∃ s, s < 2 ^ T ∧ idx T s = j := by
 have := factI
 rw [List.all_eq_true] at this
 have := this T (List.mem_range.2 (by omega))
 rw [List.all_eq_true] at this
 have := this j (List.mem_range.2 hj)
 rw [List.any_eq_true] at this
 obtain ⟨s, hs, e⟩ := this
 exact ⟨s, List.mem_range.1 hs, eq_of_beq e⟩
theorem fF (hT : T ≤ 5) {i : Nat} (hi : i < T) : (i : Int) ∈ LT T (2 ^ T - 1) := by
 have := factF
 rw [List.all_eq_true] at this
 have := this T (List.mem_range.2 (by omega))
 rw [List.all_eq_true] at this
 exact of_decide_eq_true (this i (List.mem_range.2 hi))
theorem fS (hT : T ≤ 5) : shl64 1 (T : Int) = ((2 ^ T : Nat) : Int) := by
 have := factS
 rw [List.all_eq_true] at this
 exact eq_of_beq (this T (List.mem_range.2 (by omega)))
theorem pow_le (hT : T ≤ 5) : 1 ≤ 2 ^ T ∧ 2 ^ T ≤ 32 := ⟨Nat.one_le_two_pow, Nat.le_trans (Nat.pow_le_pow_right (by decide) hT) (by decide)⟩
theorem find_least (hT : T ≤ 5) {p : List Int → Bool} (ht : t < 2 ^ T) (hp : p (LT T t) = true) (hmin : ∀ s, s < 2 ^ T → p (LT T s) = true → idx T t ≤ idx T s) : (enumT T).find? p = some (LT T t) := by
 have he := fE hT ht
 obtain ⟨hlt, hget⟩ := List.getElem?_eq_some_iff.1 he
 rw [List.find?_eq_some_iff_getElem]
 refine ⟨hp, idx T t, hlt, hget, fun j hj => ?_⟩
 obtain ⟨s, hs, e⟩ := fI hT (j := j) (by omega)
 have hes := fE hT hs
 rw [e] at hes
 obtain ⟨_, hg⟩ := List.getElem?_eq_some_iff.1 hes
 rw [hg]
 cases hps : p (LT T s) with
 | false => rfl
 | true => have := hmin s hs hps; omega
end
theorem forS_inv {S : Type} {f : Int → S → Option S} (I : Int → S → Prop) : ∀ (n : Nat) (i : Int) (s : S), I i s → (∀ j s, i ≤ j → j < i + n → I j s → ∃ s', f j s = some s' ∧ I (j + 1) s') → ∃ s', forS f n i s = some s' ∧ I (i + n) s'
 | 0, i, s, hs, h => ⟨s, rfl, by simpa using hs⟩
 | n + 1, i, s, hs, h => by
  obtain ⟨s1, e1, h1⟩ := h i s (by omega) (by omega) hs
  obtain ⟨s2, e2, h2⟩ := forS_inv I n (i + 1) s1 h1 (fun j s k1 k2 => h j s (by omega) (by omega))
  refine ⟨s2, by rw [forS, e1, bsm, e2], ?_⟩
  rw [show i + ((n + 1 : Nat) : Int) = i + 1 + (n : Int) by omega]
  exact h2
def keepT (b : StandBook) (but : List Int) : List StandTrial := (b.Trials.zipIdx.filter fun y => !decide ((y.2 : Int) ∈ but)).map (·.1)
def withT (b : StandBook) (ts : List StandTrial) : StandBook := ⟨b.Kind, b.Front, b.Back, b.Radius, b.Parts, b.Along, b.High, b.Lean_, b.Limit, ts⟩
theorem eachS_keep {α : Type} {f : Int → α → List α → Option (List α)} (q : Nat → Bool) (K : Nat) : ∀ (xs : List α) (i : Nat) (acc : List α), (∀ (j : Nat) x acc, i ≤ j → j < i + xs.length → acc.length < K → f (j : Int) x acc = some (bif q j then acc ++ [x] else acc)) → acc.length + xs.length ≤ K →
  eachS f xs (i : Int) acc = some (acc ++ ((xs.zipIdx i).filter fun y => q y.2).map (·.1))
 | [], i, acc, h, hk => by simp [eachS]
 | x :: xs, i, acc, h, hk => by
  simp only [List.length_cons] at hk h
  rw [eachS, h i x acc (by omega) (by omega) (by omega), bsm, List.zipIdx_cons, List.filter_cons]
  have e : (i : Int) + 1 = ((i + 1 : Nat) : Int) := by omega
  rw [e, eachS_keep q K xs (i + 1) _ (fun j y acc h1 h2 => h j y acc (by omega) (by omega)) (by cases q i <;> simp <;> omega)]
  cases q i <;> simp
theorem keep_fits (b : StandBook) (ns but : List Int) : (keepT b but).all (okTr b ns) = fitsB b ns but := by
 unfold keepT fitsB
 rw [List.all_map, List.all_map]
 induction b.Trials.zipIdx with
 | nil => rfl
 | cons y l ih =>
  rw [List.filter_cons, List.all_cons]
  cases hd : decide ((y.2 : Int) ∈ but) with
  | true => simp [hd, ih]
  | false => simp [hd, ih]
theorem ok_withT {b : StandBook} (h : Ok b) {ts : List StandTrial} (hts : ∀ t, t ∈ ts → t ∈ b.Trials) (hl : ts.length ≤ 5) : Ok (withT b ts) where
 sm := { kind := h.sm.kind, front := h.sm.front, back := h.sm.back, radius := h.sm.radius, along := h.sm.along, high := h.sm.high, parts := h.sm.parts, len := h.sm.len }
 l4 := h.l4
 l1 := h.l1
 vp := h.vp
 tr := fun t ht => h.tr t (hts t ht)
 lim := h.lim
 lean := h.lean
 nl := h.nl
 t5 := hl
theorem keep_mem {b : StandBook} {but : List Int} {t : StandTrial} (ht : t ∈ keepT b but) : t ∈ b.Trials := by
 unfold keepT at ht
 rw [List.mem_map] at ht
 obtain ⟨y, hy, rfl⟩ := ht
 have := (List.mem_filter.1 hy).1
 exact List.fst_mem_of_mem_zipIdx this
theorem keep_len (b : StandBook) (but : List Int) : (keepT b but).length ≤ b.Trials.length := by
 unfold keepT
 rw [List.length_map]
 exact Nat.le_trans (List.length_filter_le _ _) (by simp)
theorem filter_any {α : Type} (p : α → Bool) (l : List α) : decide (0 < ((l.filter p).length : Int)) = l.any p := by
 induction l with
 | nil => rfl
 | cons a l ih =>
  rw [List.filter_cons, List.any_cons]
  cases p a with
  | true => simp
  | false => simpa using ih
theorem keep_truths {b : StandBook} (h : Ok b) (but : List Int) : ∃ l, g62 (withT b (keepT b but)) = some l ∧ decide (0 < (l.length : Int)) = canB b but := by
 have h' := ok_withT h (ts := keepT b but) (fun t ht => keep_mem ht) (by have := keep_len b but; have := h.t5; omega)
 refine ⟨_, p62 h'.sm h'.vp h'.tr, ?_⟩
 rw [filter_any]
 unfold canB
 have e : (fun ns => rightB (withT b (keepT b but)) ns) = fun ns => fitsB b ns but := by
  funext ns
  rw [← keep_fits]
  rfl
 exact congrArg (fun p => List.any (prods b.Parts) p) e
theorem p86 {b : StandBook} (h : Ok b) {s : Nat} (hs : s < 2 ^ b.Trials.length) : g86 b (s : Int) = some (withT b (keepT b (LT b.Trials.length s))) := by
 have ht := h.t5
 unfold g86
 have := eachS_keep (f := g86_2 (s : Int)) (fun i => !decide ((i : Int) ∈ LT b.Trials.length s)) 1000 b.Trials 0 [] (fun j x acc h1 h2 hacc => by
  unfold g86_2
  rw [f92 ht hs (by omega), bsm, appL_ok (by rw [List.length_append, List.length_singleton]; omega), bsm]
  exact cs _ _ _) (by simp; omega)
 rw [show ((0 : Nat) : Int) = 0 from rfl, List.nil_append] at this
 rw [this, bsm]
 rfl
theorem rng_ne {p : StandPart} (h : VP p) : rng p ≠ [] := by
 unfold rng cnt
 have := h.le
 have : (p.Weight.High + 1 - p.Weight.Low).toNat = (p.Weight.High - p.Weight.Low).toNat + 1 := by omega
 rw [this]
 simp [List.range'_succ]
theorem prods_ne : ∀ (ps : List StandPart), (∀ p, p ∈ ps → VP p) → ∃ l, l ∈ prods ps
 | [], h => ⟨[], by simp [prods]⟩
 | p :: ps, h => by
  obtain ⟨l, hl⟩ := prods_ne ps (fun q hq => h q (by simp [hq]))
  obtain ⟨n, hn⟩ := List.exists_mem_of_ne_nil _ (rng_ne (h p (by simp)))
  exact ⟨n :: l, by simp only [prods, List.mem_flatMap, List.mem_map]; exact ⟨n, hn, l, hl, rfl⟩⟩
theorem can_full {b : StandBook} (h : Ok b) : canB b (LT b.Trials.length (2 ^ b.Trials.length - 1)) = true := by
 obtain ⟨l, hl⟩ := prods_ne b.Parts h.vp
 unfold canB
 rw [List.any_eq_true]
 refine ⟨l, hl, ?_⟩
 unfold fitsB
 rw [List.all_map, List.all_eq_true]
 rintro ⟨x, i⟩ hx
 have hi : i < b.Trials.length := by
  have := List.snd_lt_of_mem_zipIdx hx
  omega
 simp [fF h.t5 hi]
structure WrongIs (b : StandBook) (t : Nat) : Prop where
 lt : t < 2 ^ b.Trials.length
 can : canB b (LT b.Trials.length t) = true
 least : ∀ s, s < 2 ^ b.Trials.length → canB b (LT b.Trials.length s) = true → idx b.Trials.length t ≤ idx b.Trials.length s
theorem p36_loop {b : StandBook} (h : Ok b) : ∃ t, WrongIs b t ∧ forS (g36_10 b) (2 ^ b.Trials.length) 0 (LT b.Trials.length (2 ^ b.Trials.length - 1)) = some (LT b.Trials.length t) := by
 have ht := h.t5
 have hp := pow_le ht
 obtain ⟨l, e, t, ht1, ht2, ht3, ht4⟩ := forS_inv (f := g36_10 b) (fun (j : Int) (best : List Int) => ∃ t, t < 2 ^ b.Trials.length ∧ best = LT b.Trials.length t ∧ canB b (LT b.Trials.length t) = true ∧ ∀ s : Nat, (s : Int) < j → canB b (LT b.Trials.length s) = true → idx b.Trials.length t ≤ idx b.Trials.length s)
  (2 ^ b.Trials.length) 0 (LT b.Trials.length (2 ^ b.Trials.length - 1)) ⟨2 ^ b.Trials.length - 1, by omega, rfl, can_full h, fun s hs => by omega⟩ (fun j best h1 h2 ⟨t, k1, k2, k3, k4⟩ => by
   subst k2
   obtain ⟨s, rfl⟩ : ∃ s : Nat, j = (s : Int) := ⟨j.toNat, by omega⟩
   have hs : s < 2 ^ b.Trials.length := by omega
   obtain ⟨l, e62, el⟩ := keep_truths h (LT b.Trials.length s)
   refine ⟨bif decide (idx b.Trials.length s < idx b.Trials.length t) && canB b (LT b.Trials.length s) then LT b.Trials.length s else LT b.Trials.length t, ?_, ?_⟩
   ·unfold g36_10
    rw [must_t (by simp), bsm, f53 ht hs, bsm, f54 ht hs k1, bsm, p86 h hs]
    simp only [bsm, e62, el]
    cases decide (idx b.Trials.length s < idx b.Trials.length t) <;> cases canB b (LT b.Trials.length s) <;> rfl
   ·by_cases hd : idx b.Trials.length s < idx b.Trials.length t
    ·cases hc : canB b (LT b.Trials.length s) with
     | true =>
      refine ⟨s, hs, by simp [hd], hc, fun s' hs' hc' => ?_⟩
      by_cases e : s' = s
      ·subst e; omega
      ·have := k4 s' (by omega) hc'; omega
     | false =>
      refine ⟨t, k1, by simp, k3, fun s' hs' hc' => ?_⟩
      by_cases e : s' = s
      ·subst e; rw [hc] at hc'; cases hc'
      ·exact k4 s' (by omega) hc'
    ·refine ⟨t, k1, by simp [hd], k3, fun s' hs' hc' => ?_⟩
     by_cases e : s' = s
     ·subst e; omega
     ·exact k4 s' (by omega) hc')
 subst ht2
 exact ⟨t, ⟨ht1, ht3, fun s hs hc => ht4 s (by omega) hc⟩, e⟩
theorem wrong_is {b : StandBook} (h : Ok b) {t : Nat} (hw : WrongIs b t) : (enumT b.Trials.length).find? (canB b) = some (LT b.Trials.length t) := find_least h.t5 hw.lt hw.can hw.least
end Go.Proofs.YtibenpfnlajakaaDoor
namespace Go.Proofs.YtibenpfnlajakaaDoor
open Go.Abs Go.Proofs.Tz
def sdPart (x : StandPart) : Bool := decide (1 ≤ x.Weight.Low) && decide (x.Weight.Low ≤ x.Weight.High) && decide (x.Weight.High ≤ 99) && rg x.Along (-60) 60 && rg x.High 0 60
theorem p38_loop1 (b : StandBook) (hl : b.Parts.length < 900) (s : Bool) : whileC (g38_34 b) 1000 (s, 0) = some (s && b.Parts.all sdPart) := by
 have h0 : ∀ i, g38_34 b (false, i) = some (.brk false) := fun i => by simp [g38_34, bsm]
 cases s with
 | false => rw [whileC, h0]; rfl
 | true =>
  have := while_all (f := g38_34 b) (p := sdPart) (xs := b.Parts) hl h0 (by simp [g38_34, bsm]) (fun i x hx => by
   have hi : i < b.Parts.length := (List.getElem?_eq_some_iff.1 hx).1
   simp only [g38_34, cond_true, bsm, ixL_nat, hx, g87, g43, sdPart, rg, cs, Bool.cond_false_right]
   have : decide ((i : Int) < (b.Parts.length : Int)) = true := by simp [hi]
   rw [this, wr_nat (by omega)]
   simp only [cond_true, Bool.and_assoc]) b.Parts.length 0 (by omega) 1000 (by omega)
  simpa using this
theorem p38_loop2 (b : StandBook) (hl : b.Trials.length < 900) (s : Bool) : whileC (g38_53 b) 1000 (s, 0) = some (s && b.Trials.all (okTrial b)) := by
 have h0 : ∀ i, g38_53 b (false, i) = some (.brk false) := fun i => by simp [g38_53, bsm]
 cases s with
 | false => rw [whileC, h0]; rfl
 | true =>
  have := while_all (f := g38_53 b) (p := okTrial b) (xs := b.Trials) hl h0 (by simp [g38_53, bsm]) (fun i x hx => by
   have hi : i < b.Trials.length := (List.getElem?_eq_some_iff.1 hx).1
   simp only [g38_53, cond_true, bsm, ixL_nat, hx, g43, okTrial, rg, cs]
   have : decide ((i : Int) < (b.Trials.length : Int)) = true := by simp [hi]
   rw [this, wr_nat (by omega)]
   simp only [cond_true]
   cases decide (1 ≤ x.Weight) && decide (x.Weight ≤ b.Limit) <;> rfl) b.Trials.length 0 (by omega) 1000 (by omega)
  simpa using this
theorem p38 (b : StandBook) : g38 b = some (okB b) := by
 unfold g38
 rw [p18, bsm]
 cases hok : okB b with
 | false =>
  simp only [cond_false, show decide ((20 : Int) = 0) = false from rfl, bsm]
  have e1 : whileC (g38_34 b) 1000 (false, 0) = some false := by rw [whileC]; simp [g38_34, bsm]
  have e2 : whileC (g38_53 b) 1000 (false, 0) = some false := by rw [whileC]; simp [g38_53, bsm]
  simp only [e1, e2, bsm]
 | true =>
  have h := hok
  simp only [okB, okHead, okTail, Bool.and_eq_true, rg_iff, decide_eq_true_eq] at h
  obtain ⟨⟨⟨⟨⟨⟨⟨hk, hf⟩, hb⟩, hr⟩, hl⟩, ⟨⟨⟨⟨ha, hh⟩, hle⟩, hli⟩, ht⟩⟩, hp⟩, htr⟩ := h
  have hrad : 0 ≤ b.Radius ∧ b.Radius ≤ 120 := by
   cases hd : decide (b.Kind = 1) <;> rw [hd] at hr
   ·simp only [cond_false, decide_eq_true_eq] at hr; omega
   ·simp only [cond_true, rg_iff] at hr; omega
  have q1 : (b.Parts.all sdPart) = true := by
   rw [List.all_eq_true]
   intro x hx
   have hv := (ok_of hok).vp x hx
   have h1 := hv.lo; have h2 := hv.le; have h3 := hv.hi; have h4 := hv.bd
   rw [List.all_eq_true] at hp
   have h5 := hp x hx
   simp only [okPart, Bool.and_eq_true, rg_iff, decide_eq_true_eq] at h5
   simp only [sdPart, Bool.and_eq_true, rg_iff, decide_eq_true_eq]
   omega
  simp only [cond_true, decide_true, bsm, show ∀ n a c, g43 n a c = some (rg n a c) from fun _ _ _ => rfl]
  rw [rg_iff.2 hk, rg_iff.2 hf, rg_iff.2 hb, rg_iff.2 hrad, rg_iff.2 hl, rg_iff.2 ha, rg_iff.2 hh, rg_iff.2 hle, rg_iff.2 hli]
  simp only [cond_true, bsm]
  rw [decide_eq_true ht, p38_loop1 b (by omega)]
  simp only [bsm]
  rw [p38_loop2 b (by omega), q1, htr]
  rfl
theorem p41 (n : Int) {many : Int} (h1 : 1 ≤ many) (h2 : many ≤ 1000000) : ∃ r, g41 n many = some r ∧ 0 ≤ r ∧ r < many := by
 have a1 := Int.tmod_lt_of_pos n (show 0 < many by omega)
 have a2 := Int.lt_tmod_of_pos n (show 0 < many by omega)
 unfold g41
 rw [decide_eq_false (by omega), cond_false, must_t (by simp; omega), bsm]
 by_cases h : n.tmod many < 0
 ·rw [decide_eq_true h, cond_true, wr_in (by omega) (by omega)]
  exact ⟨_, rfl, by omega, by omega⟩
 ·rw [decide_eq_false h, cond_false]
  exact ⟨_, rfl, by omega, by omega⟩
end Go.Proofs.YtibenpfnlajakaaDoor
set_option maxRecDepth 100000
namespace Go.Proofs.YtibenpfnlajakaaDoor
open Go.Abs Go.Proofs.Tz
theorem p91_loop (n : Int) : ∀ (l : List Int) (i : Int), 0 ≤ i → ∃ c, eachC (g91_2 n) l i () = some c ∧ ((n ∈ l ∧ ∃ j, c = .brk j ∧ 0 ≤ j) ∨ (n ∉ l ∧ c = .next ()))
 | [], i, h => ⟨.next (), rfl, .inr ⟨by simp, rfl⟩⟩
 | x :: xs, i, h => by
  rw [eachC]
  by_cases e : x = n
  ·subst e
   exact ⟨.brk i, by simp [g91_2, bsm], .inl ⟨by simp, i, rfl, h⟩⟩
  ·obtain ⟨c, h1, h2⟩ := p91_loop n xs (i + 1) (by omega)
   refine ⟨c, by simp only [g91_2, e, decide_false, cond_false, bsm]; exact h1, ?_⟩
   have e' : ¬ n = x := fun h => e h.symm
   rcases h2 with ⟨h2, h3⟩ | ⟨h2, h3⟩
   ·exact .inl ⟨by simp [h2], h3⟩
   ·exact .inr ⟨by simp [h2, e'], h3⟩
theorem p91 (l : List Int) (n : Int) : ∃ r, g91 l n = some r ∧ decide (r < 0) = !decide (n ∈ l) := by
 unfold g91
 obtain ⟨c, h1, h2⟩ := p91_loop n l 0 (by omega)
 rw [h1]
 rcases h2 with ⟨h2, j, rfl, h3⟩ | ⟨h2, rfl⟩
 ·exact ⟨j, rfl, by rw [decide_eq_true h2, decide_eq_false (by omega)]; rfl⟩
 ·exact ⟨-1, rfl, by rw [decide_eq_false h2]; rfl⟩
theorem p52 {b : StandBook} (h : Ok b) (l : List Int) : g52 b l = some (withT b (keepT b l)) := by
 have ht := h.t5
 unfold g52
 have := eachS_keep (f := g52_2 l) (fun i => !decide ((i : Int) ∈ l)) 1000 b.Trials 0 [] (fun j x acc h1 h2 hacc => by
  obtain ⟨r, e, er⟩ := p91 l (j : Int)
  unfold g52_2
  rw [e, bsm, er, appL_ok (by rw [List.length_append, List.length_singleton]; omega), bsm]
  exact cs _ _ _) (by simp; omega)
 rw [show ((0 : Nat) : Int) = 0 from rfl, List.nil_append] at this
 rw [this, bsm]
 rfl
theorem okB_keep {b : StandBook} (hok : okB b = true) (l : List Int) : okB (withT b (keepT b l)) = true := by
 have hl := keep_len b l
 simp only [okB, okHead, okTail, Bool.and_eq_true, decide_eq_true_eq] at hok ⊢
 obtain ⟨⟨⟨h1, ⟨h2, h3⟩⟩, hp⟩, htr⟩ := hok
 refine ⟨⟨⟨h1, ⟨h2, ?_⟩⟩, hp⟩, ?_⟩
 ·unfold withT; simp only; omega
 ·rw [List.all_eq_true] at htr ⊢
  intro t ht
  exact htr t (keep_mem ht)
theorem truths_any (y : StandBook) : decide (0 < ((truths y).length : Int)) = (prods y.Parts).any (rightB y) := by
 have : (truths y).length = ((prods y.Parts).filter (rightB y)).length := by rw [← truths_prods, List.length_map]
 rw [this, filter_any]
theorem right_keep {b : StandBook} (hok : okB b = true) (l : List Int) : g16 (withT b (keepT b l)) = some (canB b l, 0) := by
 rw [p16, okB_keep hok, cond_true, truths_any]
 unfold canB
 have e : rightB (withT b (keepT b l)) = fun ns => fitsB b ns l := by
  funext ns
  rw [← keep_fits]; rfl
 rw [e]
 rfl
theorem right_can {b : StandBook} (hok : okB b = true) : g16 b = some (canB b [], 0) := by
 rw [p16, hok, cond_true, truths_any]
 unfold canB
 have e : rightB b = fun ns => fitsB b ns [] := by funext ns; rw [fits_nil]; rfl
 rw [e]
theorem fact51 : ((List.range 6).all fun T => (List.range (2 ^ T)).all fun s => g51 (LT T s) (T : Int) == some true) = true := by kernel_rfl
theorem fact0 : ((List.range 6).all fun T => (LT T 0 == []) && (idx T 0 == 0)) = true := by kernel_rfl
theorem f51 {T s : Nat} (hT : T ≤ 5) (hs : s < 2 ^ T) : g51 (LT T s) (T : Int) = some true := by
 have := fact51
 rw [List.all_eq_true] at this
 have := this T (List.mem_range.2 (by omega))
 rw [List.all_eq_true] at this
 exact eq_of_beq (this s (List.mem_range.2 hs))
theorem f0 {T : Nat} (hT : T ≤ 5) : LT T 0 = [] ∧ idx T 0 = 0 := by
 have := fact0
 rw [List.all_eq_true] at this
 have := this T (List.mem_range.2 (by omega))
 rw [Bool.and_eq_true] at this
 exact ⟨eq_of_beq this.1, eq_of_beq this.2⟩
theorem wrong_nil {b : StandBook} (h : Ok b) {t : Nat} (hw : WrongIs b t) : decide (((LT b.Trials.length t).length : Int) = 0) = canB b [] := by
 have hz := f0 h.t5
 have hp := pow_le h.t5
 cases hc : canB b [] with
 | true =>
  have h1 := hw.least 0 (by omega) (by rw [hz.1]; exact hc)
  rw [hz.2] at h1
  have e1 := fE h.t5 hw.lt
  have e2 := fE h.t5 (s := 0) (by omega)
  have : idx b.Trials.length t = 0 := by omega
  rw [this] at e1
  rw [hz.2, e1, hz.1] at e2
  rw [Option.some.inj e2]; rfl
 | false =>
  rw [decide_eq_false_iff_not]
  intro h0
  have : LT b.Trials.length t = [] := List.length_eq_zero_iff.1 (by omega)
  have h1 := hw.can
  rw [this, hc] at h1
  cases h1
theorem plain14 (b : StandBook) (n : Int) : g14 b n = some true := by
 unfold g14
 rw [p35, bsm, p38]
 unfold wrongT
 cases hok : okB b with
 | false => simp [bsm, stood_ok]
 | true =>
  have h := ok_of hok
  have ht := h.t5
  have hp := pow_le ht
  obtain ⟨t, hw, _⟩ := p36_loop h
  rw [wrong_is h hw]
  obtain ⟨r, e1, e2, e3⟩ := p41 n (many := ((2 ^ b.Trials.length : Nat) : Int)) (by omega) (by omega)
  obtain ⟨s, rfl⟩ : ∃ s : Nat, r = (s : Int) := ⟨r.toNat, by omega⟩
  have hs : s < 2 ^ b.Trials.length := by omega
  have m0 : must (decide (0 ≤ (b.Trials.length : Int))) = some () := must_t (by simp)
  simp only [cond_true, Option.getD_some, bsm, Bool.not_true, cond_false, right_can hok, f51 ht hw.lt, p52 h, right_keep hok, m0, fS ht, e1, f53 ht hs, f54 ht hs hw.lt, wrong_nil h hw, hw.can]
  simp only [ne_eq, not_true_eq_false, decide_false, Bool.or_self, cond_false, bsm, Bool.not_true, BEq.rfl, bne_self_eq_false]
  by_cases hlt : idx b.Trials.length s < idx b.Trials.length t
  ·have hc : canB b (LT b.Trials.length s) = false := by
    cases hx : canB b (LT b.Trials.length s) with
    | false => rfl
    | true => have := hw.least s hs hx; omega
   simp [hlt, hc, stood_ok, bsm]
  ·simp [hlt, stood_ok, bsm]
end Go.Proofs.YtibenpfnlajakaaDoor
