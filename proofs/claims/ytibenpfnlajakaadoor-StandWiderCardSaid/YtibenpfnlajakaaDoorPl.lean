/- Plain laws. Conditions: none. -/
import Derived.Test.YtibenpfnlajakaaDoorAr
set_option linter.unusedVariables false
set_option linter.unusedSimpArgs false
namespace Go.Proofs.YtibenpfnlajakaaDoor
open Go.Abs Go.Proofs.Tz
theorem cs {α : Type} (c : Bool) (a b : α) : (bif c then some a else some b) = some (bif c then a else b) := by cases c <;> rfl
theorem bsm {α β : Type} (a : α) (f : α → Option β) : (some a).bind f = f a := rfl
theorem eachS_all {α : Type} {f : Int → α → Bool → Option Bool} {p : α → Bool} (h : ∀ i x s, f i x s = some (s && p x)) : ∀ (xs : List α) (i : Int) (s : Bool), eachS f xs i s = some (s && xs.all p)
 | [], i, s => by simp [eachS]
 | x :: xs, i, s => by rw [eachS, h, bsm, eachS_all h xs]; simp [Bool.and_assoc]
def rg (n a b : Int) : Bool := decide (a ≤ n) && decide (n ≤ b)
def okPart (p : StandPart) : Bool := rg p.Weight.Low 1 p.Weight.High && decide (p.Weight.High ≤ 99) && decide (wr (p.Weight.High - p.Weight.Low) ≤ 4) && rg p.Along (-60) 60 && rg p.High 0 60
def okTrial (b : StandBook) (t : StandTrial) : Bool := rg t.Weight 1 b.Limit && rg t.Lean_ (wr (-b.Lean_)) b.Lean_
def okHead (b : StandBook) : Bool := rg b.Kind 0 1 && rg b.Front 1 60 && rg b.Back 1 60 && (bif decide (b.Kind = 1) then rg b.Radius 1 120 else decide (b.Radius = 0)) && rg (b.Parts.length : Int) 1 4
def okTail (b : StandBook) : Bool := rg b.Along (-60) 60 && rg b.High 0 60 && rg b.Lean_ 0 12 && rg b.Limit 1 60 && decide ((b.Trials.length : Int) ≤ 5)
def okB (b : StandBook) : Bool := okHead b && okTail b && b.Parts.all okPart && b.Trials.all (okTrial b)
theorem p18_36 (i : Int) (x : StandPart) (s : Bool) : g18_36 i x s = some (s && okPart x) := by
 simp only [g18_36, g63, bsm, cs, okPart, rg, Bool.cond_false_right, Bool.and_assoc]
theorem p18_56 (b : StandBook) (i : Int) (x : StandTrial) (s : Bool) : g18_56 b i x s = some (s && okTrial b x) := by
 simp only [g18_56, g63, bsm, cs, okTrial, rg, Bool.cond_false_right, Bool.and_assoc]
theorem p18 (b : StandBook) : g18 b = some (bif okB b then 0 else 20) := by
 unfold g18
 simp only [g63, bsm, cs, Bool.cond_false_right, eachS_all p18_36, eachS_all (p18_56 b)]
 have : ∀ x : Bool, (bif !x then (20 : Int) else 0) = bif x then 0 else 20 := by intro x; cases x <;> rfl
 rw [this]
 congr 2
 simp only [okB, okHead, okTail, rg]
 cases decide (b.Kind = 1) <;> simp [Bool.and_assoc]
theorem while_all {α : Type} {f : Bool × Int → Option (Ctl (Bool × Int) Bool)} {p : α → Bool} {xs : List α} (hl : xs.length < 900)
  (h0 : ∀ i, f (false, i) = some (.brk false)) (h1 : f (true, (xs.length : Int)) = some (.brk true))
  (h : ∀ (i : Nat) x, xs[i]? = some x → f (true, (i : Int)) = some (.next (p x, ((i + 1 : Nat) : Int)))) :
  ∀ (n i : Nat), i + n = xs.length → ∀ k, n + 2 ≤ k → whileC f k (true, (i : Int)) = some ((xs.drop i).all p)
 | 0, i, hi, k, hk => by
  obtain ⟨k, rfl⟩ : ∃ k', k = k' + 1 := ⟨k - 1, by omega⟩
  have : i = xs.length := by omega
  subst this
  rw [whileC, h1]; simp
 | n + 1, i, hi, k, hk => by
  obtain ⟨k, rfl⟩ : ∃ k', k = k' + 1 := ⟨k - 1, by omega⟩
  have hlt : i < xs.length := by omega
  rw [whileC, h i _ (List.getElem?_eq_getElem hlt), bsm, List.drop_eq_getElem_cons hlt, List.all_cons]
  cases hp : p xs[i] with
  | false =>
   obtain ⟨k, rfl⟩ : ∃ k', k = k' + 1 := ⟨k - 1, by omega⟩
   simp only; rw [whileC, h0]; rfl
  | true => simp only; rw [while_all hl h0 h1 h n (i + 1) (by omega) k (by omega)]; simp
theorem wr_nat {i : Nat} (h : i < 1000) : wr ((i : Int) + 1) = ((i + 1 : Nat) : Int) := by rw [wr_in (by omega) (by omega)]; simp
theorem ixL_nat {α : Type} (xs : List α) (i : Nat) : ixL xs (i : Int) = xs[i]? := by
 unfold ixL
 have : decide (0 ≤ (i : Int)) = true := by simp
 rw [this]; simp
end Go.Proofs.YtibenpfnlajakaaDoor
namespace Go.Proofs.YtibenpfnlajakaaDoor
open Go.Abs Go.Proofs.Tz
def Bd (a x : Int) : Prop := -a ≤ x ∧ x ≤ a
theorem Bd.mul {a b x y : Int} (hx : Bd a x) (hy : Bd b y) : Bd (a * b) (x * y) := by
 have h1 : x.natAbs ≤ a.natAbs := by obtain ⟨h, k⟩ := hx; omega
 have h2 : y.natAbs ≤ b.natAbs := by obtain ⟨h, k⟩ := hy; omega
 have h3 := Nat.mul_le_mul h1 h2
 rw [← Int.natAbs_mul, ← Int.natAbs_mul] at h3
 have ha : 0 ≤ a := by obtain ⟨h, k⟩ := hx; omega
 have hb : 0 ≤ b := by obtain ⟨h, k⟩ := hy; omega
 have := Int.mul_nonneg ha hb
 constructor <;> omega
theorem Bd.add {a b x y : Int} (hx : Bd a x) (hy : Bd b y) : Bd (a + b) (x + y) := by obtain ⟨h, k⟩ := hx; obtain ⟨h', k'⟩ := hy; constructor <;> omega
theorem Bd.sub {a b x y : Int} (hx : Bd a x) (hy : Bd b y) : Bd (a + b) (x - y) := by obtain ⟨h, k⟩ := hx; obtain ⟨h', k'⟩ := hy; constructor <;> omega
theorem Bd.mono {a b x : Int} (hx : Bd a x) (h : a ≤ b) : Bd b x := by obtain ⟨h, k⟩ := hx; constructor <;> omega
theorem Bd.wr {a x : Int} (hx : Bd a x) (h : a ≤ 9223372036854775807) : wr x = x := by obtain ⟨h1, k⟩ := hx; exact wr_in (by omega) (by omega)
def ld : List StandPart → List Int → (Int × Int × Int) → (Int × Int × Int)
 | p :: ps, n :: ns, s => ld ps ns (s.1 + n, s.2.1 + n * p.Along, s.2.2 + n * p.High)
 | _, _, s => s
def SB (k : Int) (s : Int × Int × Int) : Prop := Bd (k * 1000) s.1 ∧ Bd (k * 100000) s.2.1 ∧ Bd (k * 100000) s.2.2
def PB (p : StandPart) : Prop := Bd 60 p.Along ∧ Bd 60 p.High
def NB (n : Int) : Prop := Bd 200 n
theorem sb_step {k : Int} (hk : 0 ≤ k) {s : Int × Int × Int} {p : StandPart} {n : Int} (h : SB k s) (hp : PB p) (hn : NB n) : SB (k + 1) (s.1 + n, s.2.1 + n * p.Along, s.2.2 + n * p.High) := by
 have h1 := Bd.mul hn hp.1
 have h2 := Bd.mul hn hp.2
 refine ⟨(h.1.add hn).mono (by omega), (h.2.1.add h1).mono (by omega), (h.2.2.add h2).mono (by omega)⟩
theorem sb_wr {k : Int} (hk : 0 ≤ k) (hk' : k ≤ 1000) {s : Int × Int × Int} {p : StandPart} {n : Int} (h : SB k s) (hp : PB p) (hn : NB n) :
  (wr (s.1 + n), wr (s.2.1 + wr (n * p.Along)), wr (s.2.2 + wr (n * p.High))) = (s.1 + n, s.2.1 + n * p.Along, s.2.2 + n * p.High) := by
 have h1 := Bd.mul hn hp.1
 have h2 := Bd.mul hn hp.2
 rw [h1.wr (by omega), h2.wr (by omega), (h.1.add hn).wr (by omega), (h.2.1.add h1).wr (by omega), (h.2.2.add h2).wr (by omega)]
theorem ld_sb : ∀ (ps : List StandPart) (ns : List Int) (k : Int) (s : Int × Int × Int), 0 ≤ k → (∀ p, p ∈ ps → PB p) → (∀ n, n ∈ ns → NB n) → SB k s → SB (k + ps.length) (ld ps ns s)
 | [], ns, k, s, hk, hp, hn, h => by simpa [ld] using h
 | p :: ps, [], k, s, hk, hp, hn, h => by
  refine ⟨h.1.mono ?_, h.2.1.mono ?_, h.2.2.mono ?_⟩ <;> (simp only [List.length_cons]; omega)
 | p :: ps, n :: ns, k, s, hk, hp, hn, h => by
  have := ld_sb ps ns (k + 1) _ (by omega) (fun q hq => hp q (by simp [hq])) (fun q hq => hn q (by simp [hq])) (sb_step hk h (hp p (by simp)) (hn n (by simp)))
  rw [ld]
  have e : k + ((p :: ps).length : Int) = k + 1 + (ps.length : Int) := by simp only [List.length_cons]; omega
  rw [e]; exact this
theorem ixN_nat {n i : Nat} (h : i < n) : ixN n (i : Int) = some i := by
 unfold ixN
 have : (decide (0 ≤ (i : Int)) && Nat.blt (i : Int).toNat n) = true := by simp [h, Nat.blt_eq]
 rw [this]; simp
theorem p95_loop (w : Nat → Int) : ∀ (ps : List StandPart) (i : Nat) (k : Int) (s : Int × Int × Int), 0 ≤ k → k + ps.length ≤ 1000 → i + ps.length ≤ 4 → (∀ p, p ∈ ps → PB p) → (∀ j, j < 4 → NB (w j)) → SB k s →
  eachS (g95_3 w) ps (i : Int) s = some (ld ps ((List.range' i ps.length).map w) s)
 | [], i, k, s, hk, hk', hi, hp, hn, h => by simp [eachS, ld]
 | p :: ps, i, k, s, hk, hk', hi, hp, hn, h => by
  simp only [List.length_cons] at hk' hi
  have hi4 : i < 4 := by omega
  obtain ⟨s1, s2, s3⟩ := s
  have e := sb_wr hk (by omega) h (hp p (by simp)) (hn i hi4)
  simp only at e
  rw [eachS]
  simp only [g95_3, ixN_nat hi4, bsm]
  rw [e]
  have := p95_loop w ps (i + 1) (k + 1) _ (by omega) (by omega) (by omega) (fun q hq => hp q (by simp [hq])) hn (sb_step hk h (hp p (by simp)) (hn i hi4))
  simp only [Int.natCast_add, Int.cast_ofNat_Int] at this
  rw [this, List.length_cons, List.range'_succ, List.map_cons, ld]
def topL (b : StandBook) (s : Int × Int × Int) : Int :=
 bif decide (b.Kind = 0) then min (b.Back * s.1 + s.2.1) (b.Front * s.1 - s.2.1)
 else min (b.Back * (b.Radius * s.1 - s.2.2) + b.Radius * s.2.1) (b.Front * (b.Radius * s.1 - s.2.2) - b.Radius * s.2.1)
structure Sm (b : StandBook) : Prop where
 kind : b.Kind = 0 ∨ b.Kind = 1
 front : Bd 200 b.Front
 back : Bd 200 b.Back
 radius : Bd 200 b.Radius
 along : Bd 60 b.Along
 high : Bd 60 b.High
 parts : ∀ p, p ∈ b.Parts → PB p
 len : b.Parts.length ≤ 5
theorem top_wr0 {b : StandBook} (hb : Sm b) {s : Int × Int × Int} (h : SB 10 s) : wr (wr (b.Back * s.1) + s.2.1) = b.Back * s.1 + s.2.1 ∧ wr (wr (b.Front * s.1) - s.2.1) = b.Front * s.1 - s.2.1 := by
 have h1 := Bd.mul hb.back h.1
 have h2 := Bd.mul hb.front h.1
 rw [h1.wr (by omega), h2.wr (by omega), (h1.add h.2.1).wr (by omega), (h2.sub h.2.1).wr (by omega)]
 exact ⟨rfl, rfl⟩
theorem top_wr1 {b : StandBook} (hb : Sm b) {s : Int × Int × Int} (h : SB 10 s) : wr (wr (b.Back * wr (wr (b.Radius * s.1) - s.2.2)) + wr (b.Radius * s.2.1)) = b.Back * (b.Radius * s.1 - s.2.2) + b.Radius * s.2.1 ∧
  wr (wr (b.Front * wr (wr (b.Radius * s.1) - s.2.2)) - wr (b.Radius * s.2.1)) = b.Front * (b.Radius * s.1 - s.2.2) - b.Radius * s.2.1 := by
 have h0 := Bd.mul hb.radius h.1
 have h3 := Bd.mul hb.radius h.2.1
 have hd := h0.sub h.2.2
 have h1 := Bd.mul hb.back hd
 have h2 := Bd.mul hb.front hd
 rw [h0.wr (by omega), h3.wr (by omega), hd.wr (by omega), h1.wr (by omega), h2.wr (by omega), (h1.add h3).wr (by omega), (h2.sub h3).wr (by omega)]
 exact ⟨rfl, rfl⟩
theorem p123 (a c : Int) : g123 a [c] = some (min a c) := rfl
theorem p121 {b : StandBook} (hb : Sm b) (hk : b.Kind = 0) (ts : List (Nat → Int)) (ll : Stand_load) {w m h : Int} (hs : SB 10 (w, m, h)) : g121 b ts ll ⟨w, m, h⟩ = some (topL b (w, m, h)) := by
 have := top_wr0 hb hs
 simp only at this
 simp only [g121, this.1, this.2, p123, bsm, topL, hk]; rfl
theorem p122 {b : StandBook} (hb : Sm b) (hk : b.Kind = 1) (ts : List (Nat → Int)) (ll : Stand_load) {w m h : Int} (hs : SB 10 (w, m, h)) : g122 b ts ll ⟨w, m, h⟩ = some (topL b (w, m, h)) := by
 have := top_wr1 hb hs
 simp only at this
 simp only [g122, this.1, this.2, p123, bsm, topL, hk]; rfl
end Go.Proofs.YtibenpfnlajakaaDoor
namespace Go.Proofs.YtibenpfnlajakaaDoor
open Go.Abs Go.Proofs.Tz
def s0 (b : StandBook) (l : Stand_load) (weight lean : Int) : Int × Int × Int := (l.weight + weight, l.along + weight * (b.Along + lean), l.high + weight * b.High)
def CB (weight lean : Int) : Prop := Bd 100 weight ∧ Bd 100 lean
def LB (l : Stand_load) : Prop := Bd 200 l.weight ∧ Bd 20000 l.along ∧ Bd 20000 l.high
def z0 : Stand_load := ⟨0, 0, 0⟩
theorem lb_z0 : LB z0 := ⟨⟨by decide, by decide⟩, ⟨by decide, by decide⟩, ⟨by decide, by decide⟩⟩
theorem s0_sb {b : StandBook} (hb : Sm b) {l : Stand_load} (hl : LB l) {weight lean : Int} (hc : CB weight lean) : SB 1 (s0 b l weight lean) := by
 have h1 := Bd.mul hc.1 (hb.along.add hc.2)
 have h2 := Bd.mul hc.1 hb.high
 exact ⟨(hl.1.add hc.1).mono (by omega), (hl.2.1.add h1).mono (by omega), (hl.2.2.add h2).mono (by omega)⟩
theorem s0_wr {b : StandBook} (hb : Sm b) {l : Stand_load} (hl : LB l) {weight lean : Int} (hc : CB weight lean) :
  (wr (l.weight + weight), wr (l.along + wr (weight * wr (b.Along + lean))), wr (l.high + wr (weight * b.High))) = s0 b l weight lean := by
 have h0 := hb.along.add hc.2
 have h1 := Bd.mul hc.1 h0
 have h2 := Bd.mul hc.1 hb.high
 rw [h0.wr (by omega), h1.wr (by omega), h2.wr (by omega), (hl.1.add hc.1).wr (by omega), (hl.2.1.add h1).wr (by omega), (hl.2.2.add h2).wr (by omega)]
 rfl
def wl (b : StandBook) (w : Nat → Int) : List Int := (List.range' 0 b.Parts.length).map w
def sm (b : StandBook) (l : Stand_load) (ns : List Int) (weight lean : Int) : Int × Int × Int := ld b.Parts ns (s0 b l weight lean)
theorem sm_sb {b : StandBook} (hb : Sm b) {l : Stand_load} (hl : LB l) {ns : List Int} (hn : ∀ n, n ∈ ns → NB n) {weight lean : Int} (hc : CB weight lean) : SB 10 (sm b l ns weight lean) := by
 have h := ld_sb b.Parts ns 1 _ (by omega) hb.parts hn (s0_sb hb hl hc)
 have := hb.len
 exact ⟨h.1.mono (by omega), h.2.1.mono (by omega), h.2.2.mono (by omega)⟩
theorem wl_nb {b : StandBook} (hp : b.Parts.length ≤ 4) {w : Nat → Int} (hw : ∀ j, j < 4 → NB (w j)) : ∀ n, n ∈ wl b w → NB n := by
 intro n hn
 unfold wl at hn
 rw [List.mem_map] at hn
 obtain ⟨j, hj, rfl⟩ := hn
 rw [List.mem_range'] at hj
 obtain ⟨i, hi, rfl⟩ := hj
 exact hw _ (by omega)
theorem p95 {b : StandBook} (hb : Sm b) (hp : b.Parts.length ≤ 4) (ts : List (Nat → Int)) {l : Stand_load} (hl : LB l) {w : Nat → Int} (hw : ∀ j, j < 4 → NB (w j)) {c : Stand_child} (hc : CB c.weight c.lean) :
  g95 b ts l w c = some ⟨(sm b l (wl b w) c.weight c.lean).1, (sm b l (wl b w) c.weight c.lean).2.1, (sm b l (wl b w) c.weight c.lean).2.2⟩ := by
 unfold g95
 rw [s0_wr hb hl hc]
 have := p95_loop w b.Parts 0 1 _ (by omega) (by omega) (by omega) hb.parts hw (s0_sb hb hl hc)
 rw [show ((0 : Nat) : Int) = 0 from rfl] at this
 rw [this, bsm]
 rfl
theorem p70 {b : StandBook} (hb : Sm b) (hp : b.Parts.length ≤ 4) (ts : List (Nat → Int)) {l : Stand_load} (hl : LB l) {w : Nat → Int} (hw : ∀ j, j < 4 → NB (w j)) {c : Stand_child} (hc : CB c.weight c.lean) :
  g70 b ts l w c = some (decide (topL b (sm b l (wl b w) c.weight c.lean) < 0)) := by
 unfold g70
 rw [p95 hb hp ts hl hw hc]
 have hs := sm_sb hb hl (wl_nb hp hw) hc
 generalize sm b l (wl b w) c.weight c.lean = s at hs ⊢
 obtain ⟨x, m, h⟩ := s
 rcases hb.kind with hk | hk
 ·rw [hk, show ixN 2 0 = some 0 from rfl]
  simp only [bsm]
  rw [p121 hb hk ts l hs]; rfl
 ·rw [hk, show ixN 2 1 = some 1 from rfl]
  simp only [bsm]
  rw [p122 hb hk ts l hs]; rfl
theorem eachC_all {α : Type} {f : Int → α → Unit → Option (Ctl Unit Bool)} {p : Int → α → Bool} : ∀ (xs : List α) (i : Int), (∀ (j : Nat) x, xs[j]? = some x → f (i + j) x () = some (bif p (i + j) x then .next () else .brk false)) →
  bindC (eachC f xs i ()) (fun _ => some true) = some ((xs.zipIdx.map fun y => p (i + y.2) y.1).all id)
 | [], i, h => rfl
 | x :: xs, i, h => by
  have h0 := h 0 x rfl
  rw [eachC, show f i x () = _ from by simpa using h0, bsm]
  cases hp : p i x with
  | false => simp [bindC, hp]
  | true =>
   have := eachC_all (f := f) (p := p) xs (i + 1) (fun j y hy => by
    have := h (j + 1) y hy
    have e : i + ((j + 1 : Nat) : Int) = i + 1 + (j : Int) := by omega
    rw [e] at this; exact this)
   simp only [cond_true]
   rw [this]
   rw [List.zipIdx_cons, List.map_cons, List.all_cons]
   congr 1
   have e2 : xs.zipIdx 1 = xs.zipIdx.map fun y => (y.1, y.2 + 1) := by rw [List.zipIdx_eq_map_add]; simp [Nat.add_comm]
   rw [Nat.zero_add, e2, List.map_map]
   have e3 : p (i + ((0 : Nat) : Int)) x = true := by simpa using hp
   rw [id, e3, Bool.true_and]
   congr 1
   apply List.map_congr_left
   intro y _
   simp only [Function.comp]
   congr 1
   omega
theorem p104 (v : Int) : ∀ (s : List Int) (i : Int), 0 ≤ i → ∃ c, eachC (g104_3 v) s i () = some c ∧ ((v ∈ s ∧ ∃ j, c = .brk j ∧ 0 ≤ j) ∨ (v ∉ s ∧ c = .next ()))
 | [], i, h => ⟨.next (), rfl, .inr ⟨by simp, rfl⟩⟩
 | x :: xs, i, h => by
  rw [eachC]
  by_cases e : v = x
  ·subst e
   refine ⟨.brk i, by simp [g104_3, bsm], .inl ⟨by simp, i, rfl, h⟩⟩
  ·obtain ⟨c, h1, h2⟩ := p104 v xs (i + 1) (by omega)
   refine ⟨c, by simp only [g104_3, e, decide_false, cond_false, bsm]; exact h1, ?_⟩
   rcases h2 with ⟨h2, h3⟩ | ⟨h2, h3⟩
   ·exact .inl ⟨by simp [h2], h3⟩
   ·exact .inr ⟨by simp [h2, e], h3⟩
theorem p101 (s : List Int) (v : Int) : g101 s v = some (decide (v ∈ s)) := by
 unfold g101 g104
 obtain ⟨c, h1, h2⟩ := p104 v s 0 (by omega)
 rw [h1]
 rcases h2 with ⟨h2, j, rfl, h3⟩ | ⟨h2, rfl⟩
 ·simp [bindC, bsm, h2, h3]
 ·simp [bindC, bsm, h2]
def okTr (b : StandBook) (ns : List Int) (t : StandTrial) : Bool := decide (topL b (sm b z0 ns t.Weight t.Lean_) < 0) == t.Tipped
def fitsB (b : StandBook) (ns : List Int) (but : List Int) : Bool := (b.Trials.zipIdx.map fun y => decide ((y.2 : Int) ∈ but) || okTr b ns y.1).all id
theorem fits_nil (b : StandBook) (ns : List Int) : fitsB b ns [] = b.Trials.all (okTr b ns) := by
 unfold fitsB
 have : (fun (y : StandTrial × Nat) => decide ((y.2 : Int) ∈ ([] : List Int)) || okTr b ns y.1) = okTr b ns ∘ Prod.fst := by funext y; simp
 rw [this, ← List.map_map, List.zipIdx_map_fst, List.all_map]
 rfl
theorem p85 {b : StandBook} (hb : Sm b) (hp : b.Parts.length ≤ 4) (hT : ∀ t, t ∈ b.Trials → CB t.Weight t.Lean_) (ts : List (Nat → Int)) {w : Nat → Int} (hw : ∀ j, j < 4 → NB (w j)) (but : List Int) :
  g85 b ts ⟨0, 0, 0⟩ w but = some (fitsB b (wl b w) but) := by
 unfold g85
 rw [eachC_all (p := fun i t => decide (i ∈ but) || okTr b (wl b w) t) b.Trials 0]
 ·unfold fitsB; simp
 ·intro j t ht
  have hc := hT t (List.mem_of_getElem? ht)
  simp only [g85_3, p101, bsm]
  by_cases hm : (0 + (j : Int)) ∈ but
  ·have hm' : (j : Int) ∈ but := by simpa using hm
   simp [hm']
  ·simp only [hm, decide_false, Bool.not_false, cond_true, Bool.false_or]
   rw [show (Stand_load.mk 0 0 0) = z0 from rfl, p70 hb hp ts lb_z0 hw (c := ⟨t.Weight, t.Lean_⟩) hc, bsm]
   simp only [okTr]
   generalize (decide (topL b (sm b z0 (wl b w) t.Weight t.Lean_) < 0) == t.Tipped) = x
   cases x <;> rfl
end Go.Proofs.YtibenpfnlajakaaDoor
namespace Go.Proofs.YtibenpfnlajakaaDoor
open Go.Abs Go.Proofs.Tz
structure VP (p : StandPart) : Prop where
 lo : 1 ≤ p.Weight.Low
 le : p.Weight.Low ≤ p.Weight.High
 hi : p.Weight.High ≤ 99
 few : p.Weight.High - p.Weight.Low ≤ 4
 bd : PB p
def cnt (p : StandPart) : Nat := (p.Weight.High + 1 - p.Weight.Low).toNat
def rng (p : StandPart) : List Int := (List.range' 0 (cnt p)).map fun (i : Nat) => p.Weight.Low + (i : Int)
def prods : List StandPart → List (List Int)
 | [] => [[]]
 | p :: ps => (rng p).flatMap fun n => (prods ps).map (n :: ·)
theorem rng_mem {p : StandPart} {n : Int} (h : n ∈ rng p) : p.Weight.Low ≤ n ∧ n ≤ p.Weight.High := by
 unfold rng at h
 rw [List.mem_map] at h
 obtain ⟨i, hi, rfl⟩ := h
 rw [List.mem_range'] at hi
 obtain ⟨j, hj, rfl⟩ := hi
 unfold cnt at hj
 omega
theorem prods_mem : ∀ (ps : List StandPart), (∀ p, p ∈ ps → VP p) → ∀ l, l ∈ prods ps → l.length = ps.length ∧ ∀ n, n ∈ l → 1 ≤ n ∧ n ≤ 99
 | [], h, l, hl => by simp [prods] at hl; subst hl; simp
 | p :: ps, h, l, hl => by
  simp only [prods, List.mem_flatMap, List.mem_map] at hl
  obtain ⟨n, hn, l', hl', rfl⟩ := hl
  obtain ⟨h1, h2⟩ := prods_mem ps (fun q hq => h q (by simp [hq])) l' hl'
  have hp := h p (by simp)
  have hr := rng_mem hn
  refine ⟨by simp [h1], fun m hm => ?_⟩
  rcases List.mem_cons.1 hm with rfl | hm
  ·have := hp.lo; have := hp.hi; omega
  ·exact h2 m hm
theorem cnt_le {p : StandPart} (h : VP p) : cnt p ≤ 5 := by have := h.few; unfold cnt; omega
theorem flat_len {α β : Type} (f : α → List β) (m : Nat) : ∀ (l : List α), (∀ x, x ∈ l → (f x).length ≤ m) → (l.flatMap f).length ≤ l.length * m
 | [], h => by simp
 | x :: l, h => by
  have := flat_len f m l (fun y hy => h y (by simp [hy]))
  have := h x (by simp)
  rw [List.flatMap_cons, List.length_append, List.length_cons, Nat.succ_mul]; omega
theorem prods_len : ∀ (ps : List StandPart), (∀ p, p ∈ ps → VP p) → (prods ps).length ≤ 5 ^ ps.length
 | [], h => by simp [prods]
 | p :: ps, h => by
  have h1 := prods_len ps (fun q hq => h q (by simp [hq]))
  have h2 := flat_len (fun n => (prods ps).map (n :: ·)) (5 ^ ps.length) (rng p) (fun x _ => by simpa using h1)
  have h3 : (rng p).length ≤ 5 := by simp [rng]; exact cnt_le (h p (by simp))
  rw [prods, List.length_cons, Nat.pow_succ, Nat.mul_comm (5 ^ ps.length)]
  exact Nat.le_trans h2 (Nat.mul_le_mul_right _ h3)
theorem roomB_ok {n b : Nat} (h : n * b ≤ 140737488355328) : roomB n b = true := Nat.ble_eq_true_of_le h
def rightB (b : StandBook) (ns : List Int) : Bool := b.Trials.all (okTr b ns)
end Go.Proofs.YtibenpfnlajakaaDoor
namespace Go.Proofs.YtibenpfnlajakaaDoor
open Go.Abs Go.Proofs.Tz
def runY {A S : Type} (c : A → S → Option (S × Bool)) : List A → S → Option (S × Bool)
 | [], s => some (s, true)
 | a :: l, s => (c a s).bind fun r => bif r.2 then runY c l r.1 else some (r.1, false)
theorem runY_append {A S : Type} (c : A → S → Option (S × Bool)) : ∀ (l m : List A) (s : S), runY c (l ++ m) s = (runY c l s).bind fun r => bif r.2 then runY c m r.1 else some (r.1, false)
 | [], m, s => rfl
 | a :: l, m, s => by
  rw [List.cons_append, runY, runY]
  cases h : c a s with
  | none => rfl
  | some r =>
   rw [bsm, bsm]
   cases r.2 with
   | true => simp only [cond_true]; exact runY_append c l m r.1
   | false => rfl
def arrs : List StandPart → (Nat → Int) → Nat → List (Nat → Int)
 | [], w, _ => [w]
 | p :: ps, w, k => (rng p).flatMap fun n => arrs ps (aset w k n) (k + 1)
theorem aset_aset {α : Type} (w : Nat → α) (k : Nat) (x y : α) : aset (aset w k x) k y = aset w k y := by
 funext j
 unfold aset
 cases Nat.beq j k <;> rfl
theorem aset_at {α : Type} (w : Nat → α) (k : Nat) (x : α) : aset w k x k = x := by
 unfold aset
 rw [show Nat.beq k k = true from Nat.beq_refl k]; rfl
theorem aset_ne {α : Type} (w : Nat → α) {k j : Nat} (x : α) (h : j ≠ k) : aset w k x j = w j := by
 unfold aset
 cases hb : Nat.beq j k with
 | true => exact absurd (Nat.eq_of_beq_eq_true hb) h
 | false => rfl
theorem arrs_low : ∀ (ps : List StandPart) (w : Nat → Int) (k : Nat) (a : Nat → Int), a ∈ arrs ps w k → ∀ j, j < k → a j = w j
 | [], w, k, a, h, j, hj => by simp [arrs] at h; subst h; rfl
 | p :: ps, w, k, a, h, j, hj => by
  simp only [arrs, List.mem_flatMap] at h
  obtain ⟨n, hn, ha⟩ := h
  rw [arrs_low ps _ (k + 1) a ha j (by omega), aset_ne _ _ (by omega)]
theorem arrs_nb : ∀ (ps : List StandPart), (∀ p, p ∈ ps → VP p) → ∀ (w : Nat → Int) (k : Nat) (a : Nat → Int), (∀ j, NB (w j)) → a ∈ arrs ps w k → ∀ j, NB (a j)
 | [], hv, w, k, a, hw, h, j => by simp [arrs] at h; subst h; exact hw j
 | p :: ps, hv, w, k, a, hw, h, j => by
  simp only [arrs, List.mem_flatMap] at h
  obtain ⟨n, hn, ha⟩ := h
  have hr := rng_mem hn
  have hp := hv p (by simp)
  refine arrs_nb ps (fun q hq => hv q (by simp [hq])) _ (k + 1) a (fun j => ?_) ha j
  by_cases e : j = k
  ·subst e; rw [aset_at]; have := hp.lo; have := hp.hi; constructor <;> omega
  ·rw [aset_ne _ _ e]; exact hw j
theorem arrs_prods : ∀ (ps : List StandPart) (w : Nat → Int) (k : Nat), (arrs ps w k).map (fun a => (List.range' k ps.length).map a) = prods ps
 | [], w, k => rfl
 | p :: ps, w, k => by
  rw [arrs, prods, List.map_flatMap]
  congr 1
  funext n
  rw [← arrs_prods ps (aset w k n) (k + 1), List.map_map]
  apply List.map_congr_left
  intro a ha
  simp only [Function.comp, List.length_cons, List.range'_succ, List.map_cons]
  rw [arrs_low ps _ (k + 1) a ha k (by omega), aset_at]
section
variable {S : Type} (c : (Nat → Int) → S → Option (S × Bool)) (b : StandBook) (ts : List (Nat → Int)) (ll : Stand_load)
theorem p99_loop (n : Nat) (k : Nat) (p : StandPart) (ps : List StandPart) (hp : VP p) (w : Nat → Int) (hk : k < 4)
  (ih : ∀ (x : Int) (s : S), p.Weight.Low ≤ x → x ≤ p.Weight.High → g99 c n (aset w k x) ((k : Int) + 1) b ts ll s = (runY c (arrs ps (aset w k x) (k + 1)) s).map fun r => (r.2, r.1)) :
  ∀ (m i : Nat) (w' : Nat → Int) (s : S), i + m = cnt p → (∀ x, aset w' k x = aset w k x) →
   ∃ w'', forC (g99_12 (g99 c n) (k : Int) b ts ll p) m (i : Int) (s, w') = (runY c (((List.range' i m).map fun (j : Nat) => p.Weight.Low + (j : Int)).flatMap fun x => arrs ps (aset w k x) (k + 1)) s).map fun r => bif r.2 then .next (r.1, w'') else .brk (.brk (.brk (false, r.1)))
 | 0, i, w', s, hi, hw => ⟨w', rfl⟩
 | m + 1, i, w', s, hi, hw => by
  have h1 := hp.lo
  have h2 := hp.hi
  have hr : p.Weight.Low + (i : Int) ≤ p.Weight.High := by unfold cnt at hi; omega
  have e1 : wr (p.Weight.Low + (i : Int)) = p.Weight.Low + (i : Int) := wr_in (by omega) (by omega)
  have e2 : wr ((k : Int) + 1) = (k : Int) + 1 := wr_in (by omega) (by omega)
  obtain ⟨w'', h⟩ := p99_loop n k p ps hp w hk ih m (i + 1) (aset w' k (p.Weight.Low + (i : Int))) ((runY c (arrs ps (aset w k (p.Weight.Low + (i : Int))) (k + 1)) s).getD (s, true)).1 (by omega) (fun x => by rw [aset_aset, hw])
  refine ⟨w'', ?_⟩
  rw [forC]
  simp only [g99_12]
  rw [ixN_nat hk, bsm, e1, e2, hw, ih _ s (by omega) hr, List.range'_succ, List.map_cons, List.flatMap_cons, runY_append]
  cases hc : runY c (arrs ps (aset w k (p.Weight.Low + (i : Int))) (k + 1)) s with
  | none => rfl
  | some r =>
   obtain ⟨s', go⟩ := r
   rw [hc] at h
   cases go with
   | false => rfl
   | true =>
    simp only [Option.map_some, bsm, Bool.not_true, cond_false, cond_true]
    simp only [Option.getD_some] at h
    rw [hw] at h
    rw [show (i : Int) + 1 = ((i + 1 : Nat) : Int) by omega]
    exact h
theorem p99 (hb : Sm b) (hl4 : b.Parts.length ≤ 4) (hl1 : 1 ≤ b.Parts.length) (hv : ∀ p, p ∈ b.Parts → VP p) : ∀ (r n k : Nat) (w : Nat → Int) (s : S), k + r = b.Parts.length → r + 1 ≤ n → (1 ≤ k → 1 ≤ w 0) →
  g99 c n w (k : Int) b ts ll s = (runY c (arrs (b.Parts.drop k) w k) s).map fun r => (r.2, r.1)
 | 0, n, k, w, s, hk, hn, hw => by
  obtain ⟨n, rfl⟩ : ∃ m, n = m + 1 := ⟨n - 1, by omega⟩
  rw [g99]
  have e : decide ((k : Int) = (b.Parts.length : Int)) = true := by simp; omega
  have h0 : ((w 0) == 0) = false := by have := hw (by omega); simp; omega
  rw [e, cond_true]
  simp only [g100, bsm, show arrL [(0 : Int), 0, 0, 0] 0 = 0 from rfl, h0, Bool.false_and]
  rw [List.drop_eq_nil_of_le (by omega)]
  simp only [arrs, runY]
  cases c w s with
  | none => rfl
  | some q => obtain ⟨s', go⟩ := q; cases go <;> rfl
 | r + 1, n, k, w, s, hk, hn, hw => by
  obtain ⟨n, rfl⟩ : ∃ m, n = m + 1 := ⟨n - 1, by omega⟩
  have hlt : k < b.Parts.length := by omega
  rw [g99]
  have e : decide ((k : Int) = (b.Parts.length : Int)) = false := by simp; omega
  rw [e, cond_false, ixL_nat, List.getElem?_eq_getElem hlt, bsm]
  have hp := hv _ (List.getElem_mem hlt)
  rw [List.drop_eq_getElem_cons hlt]
  generalize b.Parts[k] = p at hp
  have h1 := hp.lo
  have h2 := hp.hi
  have h3 := hp.le
  have e1 : ((wr (wr (p.Weight.High - p.Weight.Low) + 1) : Int) - 0).toNat = cnt p := by
   rw [wr_in (show -9223372036854775808 ≤ p.Weight.High - p.Weight.Low by omega) (by omega), wr_in (by omega) (by omega)]
   unfold cnt; omega
  rw [e1]
  obtain ⟨w'', h⟩ := p99_loop c b ts ll n k p (b.Parts.drop (k + 1)) hp w (by omega) (fun x s hx hx' => by
   have := p99 hb hl4 hl1 hv r n (k + 1) (aset w k x) s (by omega) (by omega) (fun _ => by
    by_cases hk0 : k = 0
    ·subst hk0; rw [aset_at]; omega
    ·rw [aset_ne _ _ (by omega)]; exact hw (by omega))
   rw [← this]
   congr 1) (cnt p) 0 w s (by omega) (fun x => rfl)
  rw [show ((0 : Nat) : Int) = 0 from rfl] at h
  rw [h, arrs]
  rw [show ((List.range' 0 (cnt p)).map fun (j : Nat) => p.Weight.Low + (j : Int)) = rng p from rfl]
  cases runY c ((rng p).flatMap fun x => arrs (b.Parts.drop (k + 1)) (aset w k x) (k + 1)) s with
  | none => rfl
  | some q => obtain ⟨s', go⟩ := q; cases go <;> rfl
end
theorem runY_keep {A : Type} {f : A → List A → Option (List A)} {p : A → Bool} (K : Nat) (c : A → Ctl (List A) Unit → Option (Ctl (List A) Unit × Bool)) :
  ∀ (l : List A) (s : List A), (∀ a, a ∈ l → ∀ s : List A, s.length ≤ K → c a (.next s) = some (.next (s ++ bif p a then [a] else []), true)) → s.length + l.length ≤ K →
   runY c l (.next s) = some (.next (s ++ l.filter p), true)
 | [], s, h, hk => by simp [runY]
 | a :: l, s, h, hk => by
  simp only [List.length_cons] at hk
  rw [runY, h a (by simp) s (by omega), bsm]
  simp only [cond_true]
  rw [runY_keep (f := f) K c l _ (fun x hx => h x (by simp [hx])) (by rw [List.length_append]; cases p a <;> simp <;> omega), List.filter_cons]
  cases hp : p a <;> simp
def arr0 : Nat → Int := arrL [0, 0, 0, 0]
theorem arr0_nb (j : Nat) : NB (arr0 j) := by
 have : arr0 j = 0 := by
  match j with
  | 0 => rfl
  | 1 => rfl
  | 2 => rfl
  | 3 => rfl
  | j + 4 => rfl
 rw [this]; constructor <;> decide
def truths (b : StandBook) : List (Nat → Int) := (arrs b.Parts arr0 0).filter fun a => rightB b (wl b a)
theorem arrs_len (b : StandBook) (hv : ∀ p, p ∈ b.Parts → VP p) (h : b.Parts.length ≤ 4) : (arrs b.Parts arr0 0).length ≤ 625 := by
 have h1 := prods_len b.Parts hv
 rw [← arrs_prods b.Parts arr0 0, List.length_map] at h1
 exact Nat.le_trans h1 (Nat.le_trans (Nat.pow_le_pow_right (by decide) h) (by decide))
theorem p61 {b : StandBook} (hb : Sm b) (hl4 : b.Parts.length ≤ 4) (hl1 : 1 ≤ b.Parts.length) (hv : ∀ p, p ∈ b.Parts → VP p) (hT : ∀ t, t ∈ b.Trials → CB t.Weight t.Lean_) : g61 b = some (b, truths b, ⟨0, 0, 0⟩, []) := by
 unfold g61 g98
 simp only [g84, g100, bsm]
 have h := p99 (fun a s => rndC (g61_r4 b) a s) b [] ⟨0, 0, 0⟩ hb hl4 hl1 hv b.Parts.length 1000 0 arr0 (.next []) (by omega) (by omega) (fun h => by omega)
 rw [show ((0 : Nat) : Int) = 0 from rfl, List.drop_zero] at h
 rw [show arrL [(0 : Int), 0, 0, 0] = arr0 from rfl, h]
 have hk := runY_keep (f := fun _ _ => none) (p := fun a => rightB b (wl b a)) 100000 (fun a s => rndC (g61_r4 b) a s) (arrs b.Parts arr0 0) [] (fun a ha s hs => by
  have hnb := arrs_nb b.Parts hv arr0 0 a arr0_nb ha
  simp only [rndC, g61_r4]
  rw [p85 hb hl4 hT s (fun j _ => hnb j) [], fits_nil, bsm]
  rw [show b.Trials.all (okTr b (wl b a)) = rightB b (wl b a) from rfl]
  cases rightB b (wl b a) with
  | false => simp [bsm, isNext]
  | true =>
   unfold appL
   rw [roomB_ok (by simp; omega)]
   rfl) (by have := arrs_len b hv hl4; simp; omega)
 rw [hk]
 rfl
theorem truths_prods {b : StandBook} : (truths b).map (wl b) = (prods b.Parts).filter (rightB b) := by
 rw [← arrs_prods b.Parts arr0 0, List.filter_map]
 rfl
end Go.Proofs.YtibenpfnlajakaaDoor
namespace Go.Proofs.YtibenpfnlajakaaDoor
open Go.Abs Go.Proofs.Tz
structure Ok (b : StandBook) : Prop where
 sm : Sm b
 l4 : b.Parts.length ≤ 4
 l1 : 1 ≤ b.Parts.length
 vp : ∀ p, p ∈ b.Parts → VP p
 tr : ∀ t, t ∈ b.Trials → CB t.Weight t.Lean_
 lim : 1 ≤ b.Limit ∧ b.Limit ≤ 60
 lean : 0 ≤ b.Lean_ ∧ b.Lean_ ≤ 12
 nl : wr (-b.Lean_) = -b.Lean_
 t5 : b.Trials.length ≤ 5
theorem rg_iff {n a c : Int} : rg n a c = true ↔ a ≤ n ∧ n ≤ c := by simp [rg]
theorem okPart_vp {p : StandPart} (h : okPart p = true) : VP p := by
 simp only [okPart, Bool.and_eq_true, rg_iff, decide_eq_true_eq] at h
 obtain ⟨⟨⟨⟨⟨h1, h2⟩, h3⟩, h4⟩, h5⟩, h6⟩ := h
 rw [wr_in (by omega) (by omega)] at h4
 exact ⟨h1, h2, h3, h4, ⟨h5.1, h5.2⟩, ⟨by omega, h6.2⟩⟩
theorem ok_of {b : StandBook} (h : okB b = true) : Ok b := by
 simp only [okB, okHead, okTail, Bool.and_eq_true, rg_iff, decide_eq_true_eq, List.all_eq_true] at h
 obtain ⟨⟨⟨⟨⟨⟨⟨hk, hf⟩, hb⟩, hr⟩, hl⟩, ⟨⟨⟨⟨ha, hh⟩, hle⟩, hli⟩, ht⟩⟩, hp⟩, htr⟩ := h
 have hrad : Bd 200 b.Radius := by
  cases hd : decide (b.Kind = 1) <;> rw [hd] at hr
  ·simp only [cond_false, decide_eq_true_eq] at hr; rw [hr]; constructor <;> decide
  ·simp only [cond_true, rg_iff] at hr; exact ⟨by omega, by omega⟩
 have nl : wr (-b.Lean_) = -b.Lean_ := wr_in (by omega) (by omega)
 have vp : ∀ p, p ∈ b.Parts → VP p := fun p hm => okPart_vp (hp p hm)
 refine ⟨⟨by omega, ⟨by omega, by omega⟩, ⟨by omega, by omega⟩, hrad, ⟨by omega, by omega⟩, ⟨by omega, by omega⟩, fun p hm => (vp p hm).bd, by omega⟩, by omega, by omega, vp, fun t hm => ?_, hli, hle, nl, by omega⟩
 have := htr t hm
 simp only [okTrial, Bool.and_eq_true, rg_iff, nl] at this
 exact ⟨⟨by omega, by omega⟩, ⟨by omega, by omega⟩⟩
theorem p61' {b : StandBook} (h : Ok b) : g61 b = some (b, truths b, ⟨0, 0, 0⟩, []) := p61 h.sm h.l4 h.l1 h.vp h.tr
def tl (b : StandBook) : List (List Int) := (truths b).map (wl b)
theorem truths_nb {b : StandBook} (h : Ok b) {a : Nat → Int} (ha : a ∈ truths b) : ∀ j, NB (a j) := arrs_nb b.Parts h.vp arr0 0 a arr0_nb (List.mem_filter.1 ha).1
theorem wl_len (b : StandBook) (a : Nat → Int) : (wl b a).length = b.Parts.length := by simp [wl]
def bk0 : StandBook := StandBook.mk 0 0 0 0 [] 0 0 0 0 []
def er (b : StandBook) (is : Bool) : Int := bif okB b then (bif is then (bif decide (((truths b).length : Int) = 0) then 22 else 0) else 21) else 20
theorem p67 (b : StandBook) (is : Bool) : g67 b is = some (bif okB b && is then .brk (b, truths b, ⟨0, 0, 0⟩, er b is, []) else .next (bk0, [], ⟨0, 0, 0⟩, er b is)) := by
 unfold g67 er
 rw [p18, bsm]
 cases h : okB b with
 | false => rfl
 | true =>
  cases is with
  | false => rfl
  | true =>
   simp only [cond_true, p61' (ok_of h), bsm]
   cases decide (((truths b).length : Int) = 0) <;> rfl
def tipB (b : StandBook) (weight lean : Int) (ns : List Int) : Bool := decide (topL b (sm b z0 ns weight lean) < 0)
def many (b : StandBook) (weight lean : Int) : Nat := ((truths b).filter fun a => tipB b weight lean (wl b a)).length
theorem must_t {x : Bool} (h : x = true) : must x = some () := by subst h; rfl
theorem er_false (b : StandBook) : decide (er b false ≠ 0) = true := by unfold er; cases okB b <;> rfl
theorem er_bad {b : StandBook} (h : okB b = false) (is : Bool) : er b is = 20 := by unfold er; rw [h]; rfl
end Go.Proofs.YtibenpfnlajakaaDoor
namespace Go.Proofs.YtibenpfnlajakaaDoor
open Go.Abs Go.Proofs.Tz
def gcI (a c : Int) : Int := (Nat.gcd a.natAbs c.natAbs : Nat)
theorem g97_2_nat (n m : Nat) : g97_2 ((n : Int), (m : Int)) = bif decide (0 < n) then some (.next (((m % n : Nat) : Int), (n : Int))) else some (.brk (m : Int)) := by
 unfold g97_2
 by_cases h : 0 < n
 ·have h1 : decide (0 < (n : Int)) = true := by simp; omega
  have h2 : decide ((n : Int) ≠ 0) = true := by simp; omega
  simp only [h1, cond_true, must_t h2, bsm, decide_eq_true h]
  rw [show (m : Int).tmod (n : Int) = ((m % n : Nat) : Int) from rfl]
 ·have h1 : decide (0 < (n : Int)) = false := by simp; omega
  simp only [h1, cond_false, decide_eq_false h]
theorem half {n m k : Nat} (hn : 0 < n) (h : n ≤ m) (hp : n * m < 2 ^ (k + 1)) : (m % n) * n < 2 ^ k := by
 have h1 := Nat.mod_lt m hn
 have h2 : n + m % n ≤ m := by
  have := Nat.div_add_mod m n
  have h3 : 1 ≤ m / n := (Nat.one_le_div_iff hn).2 h
  have : n * 1 ≤ n * (m / n) := Nat.mul_le_mul_left n h3
  omega
 have h4 : n * (2 * (m % n)) ≤ n * m := Nat.mul_le_mul_left n (by omega)
 have e : n * (2 * (m % n)) = 2 * (m % n * n) := by rw [Nat.mul_left_comm, Nat.mul_comm n]
 rw [Nat.pow_succ] at hp
 omega
theorem w97 : ∀ (k n m f : Nat), n ≤ m → n * m < 2 ^ k → k + 1 ≤ f → whileC g97_2 f ((n : Int), (m : Int)) = some ((Nat.gcd n m : Nat) : Int)
 | 0, n, m, f, h, hp, hf => by
  obtain ⟨f, rfl⟩ : ∃ j, f = j + 1 := ⟨f - 1, by omega⟩
  have : n = 0 := by
   rcases Nat.eq_zero_or_pos n with h0 | h0
   ·exact h0
   ·have := Nat.mul_le_mul h0 (Nat.le_trans h0 h); omega
  subst this
  rw [whileC, g97_2_nat]; simp [bsm]
 | k + 1, n, m, f, h, hp, hf => by
  obtain ⟨f, rfl⟩ : ∃ j, f = j + 1 := ⟨f - 1, by omega⟩
  rcases Nat.eq_zero_or_pos n with h0 | h0
  ·subst h0
   rw [whileC, g97_2_nat]; simp [bsm]
  ·rw [whileC, g97_2_nat, decide_eq_true h0]
   simp only [cond_true, bsm]
   rw [w97 k (m % n) n f (Nat.le_of_lt (Nat.mod_lt m h0)) (half h0 h hp) (by omega), Nat.gcd_rec n m]
theorem w97' {k n m f : Nat} (hm : 0 < m) (hp : n * m < 2 ^ k) (hf : k + 2 ≤ f) : whileC g97_2 f ((n : Int), (m : Int)) = some ((Nat.gcd n m : Nat) : Int) := by
 by_cases h : n ≤ m
 ·exact w97 k n m f h hp (by omega)
 ·obtain ⟨f, rfl⟩ : ∃ j, f = j + 1 := ⟨f - 1, by omega⟩
  rw [whileC, g97_2_nat, decide_eq_true (show 0 < n by omega)]
  simp only [cond_true, bsm]
  rw [w97 k (m % n) n f (Nat.le_of_lt (Nat.mod_lt m (by omega))) (by rw [Nat.mod_eq_of_lt (by omega), Nat.mul_comm]; exact hp) (by omega), Nat.gcd_rec n m]
def MB (x : Int × Int) : Prop := Bd 2000000000 x.1 ∧ 1 ≤ x.2 ∧ x.2 ≤ 10000
def low (x : Int × Int) : StandRatio := ⟨wr (x.1.tdiv (gcI x.1 x.2)), wr (x.2.tdiv (gcI x.1 x.2))⟩
theorem max_abs {t : Int} (h : Bd 2000000000 t) : max t (wr (-t)) = (t.natAbs : Int) := by
 obtain ⟨h1, h2⟩ := h
 rw [wr_in (by omega) (by omega)]; omega
theorem gc_pos {x : Int × Int} (h : MB x) : decide (gcI x.1 x.2 ≠ 0) = true := by
 have : 0 < Nat.gcd x.1.natAbs x.2.natAbs := Nat.gcd_pos_of_pos_right _ (by have := h.2.1; omega)
 have h0 : gcI x.1 x.2 ≠ 0 := by unfold gcI; omega
 exact decide_eq_true h0
theorem mb_pow {x : Int × Int} (h : MB x) : x.1.natAbs * x.2.natAbs < 2 ^ 60 := by
 have h1 : x.1.natAbs ≤ 2000000000 := by obtain ⟨⟨a, b⟩, _⟩ := h; omega
 have h2 : x.2.natAbs ≤ 10000 := by obtain ⟨_, a, b⟩ := h; omega
 have := Nat.mul_le_mul h1 h2
 omega
theorem p97 {x : Int × Int} (h : MB x) : g97 ⟨x.1, x.2⟩ = some (low x) := by
 unfold g97
 simp only
 rw [max_abs h.1]
 have e : x.2 = (x.2.natAbs : Int) := by have := h.2.1; omega
 have := w97' (f := 1000) (by have := h.2.1; omega) (mb_pow h) (by decide)
 rw [← e] at this
 rw [this, bsm]
 have hg := gc_pos h
 rw [show ((Nat.gcd x.1.natAbs x.2.natAbs : Nat) : Int) = gcI x.1 x.2 from rfl, must_t hg, bsm, bsm]
 rfl
def mgL (b : StandBook) (l : Stand_load) (ns : List Int) (weight lean : Int) : Int × Int := (topL b (sm b l ns weight lean), (sm b l ns weight lean).1)
theorem min_bd {a x y : Int} (hx : Bd a x) (hy : Bd a y) : Bd a (min x y) := by
 obtain ⟨h1, h2⟩ := hx; obtain ⟨h3, h4⟩ := hy
 constructor <;> omega
theorem topL_bd {b : StandBook} (hb : Sm b) {s : Int × Int × Int} (h : SB 10 s) : Bd 2000000000 (topL b s) := by
 have h1 := Bd.mul hb.back h.1
 have h2 := Bd.mul hb.front h.1
 have h0 := Bd.mul hb.radius h.1
 have h3 := Bd.mul hb.radius h.2.1
 have hd := h0.sub h.2.2
 have h4 := Bd.mul hb.back hd
 have h5 := Bd.mul hb.front hd
 unfold topL
 cases decide (b.Kind = 0) with
 | true => exact min_bd ((h1.add h.2.1).mono (by omega)) ((h2.sub h.2.1).mono (by omega))
 | false => exact min_bd ((h4.add h3).mono (by omega)) ((h5.sub h3).mono (by omega))
theorem ld_pos : ∀ (ps : List StandPart) (ns : List Int) (s : Int × Int × Int), (∀ n, n ∈ ns → 0 ≤ n) → s.1 ≤ (ld ps ns s).1
 | [], ns, s, h => by simp [ld]
 | p :: ps, [], s, h => by simp [ld]
 | p :: ps, n :: ns, s, h => by
  have := ld_pos ps ns (s.1 + n, s.2.1 + n * p.Along, s.2.2 + n * p.High) (fun x hx => h x (by simp [hx]))
  have h0 := h n (by simp)
  rw [ld]; simp only at this; omega
theorem mgL_mb {b : StandBook} (hb : Sm b) {l : Stand_load} (hl : LB l) (hl0 : 0 ≤ l.weight) {ns : List Int} (hn : ∀ n, n ∈ ns → NB n ∧ 0 ≤ n) {weight lean : Int} (hc : CB weight lean) (hw : 1 ≤ weight) : MB (mgL b l ns weight lean) := by
 have hs := sm_sb hb hl (fun n h => (hn n h).1) hc
 have h1 := ld_pos b.Parts ns (s0 b l weight lean) (fun n h => (hn n h).2)
 refine ⟨topL_bd hb hs, ?_, ?_⟩
 ·have : (s0 b l weight lean).1 = l.weight + weight := rfl
  unfold mgL sm; simp only; omega
 ·have := hs.1.2; unfold mgL; simp only; omega
def mstep {α : Type} (f : α → Int × Int) (st : Int × Int) (a : α) : Int × Int := bif decide ((f a).1 * st.2 < st.1 * (f a).2) then f a else st
def leastM {α : Type} (f : α → Int × Int) : List α → Int × Int
 | [] => (0, 0)
 | a :: l => l.foldl (mstep f) (f a)
theorem mstep_mb {α : Type} {f : α → Int × Int} {st : Int × Int} {a : α} (h : MB st) (ha : MB (f a)) : MB (mstep f st a) := by
 unfold mstep; cases decide ((f a).1 * st.2 < st.1 * (f a).2) <;> assumption
theorem mb_wr {x y : Int × Int} (hx : MB x) (hy : MB y) : wr (x.1 * y.2) = x.1 * y.2 := by
 have : Bd 10000 y.2 := ⟨by have := hy.2.1; omega, hy.2.2⟩
 exact (Bd.mul hx.1 this).wr (by omega)
theorem eachS_fold {α S : Type} {f : Int → α → S → Option S} {g : S → α → S} {I : S → Prop} : ∀ (xs : List α) (i : Nat) (s : S), (∀ (j : Nat) a, i ≤ j → a ∈ xs → ∀ s, I s → f (j : Int) a s = some (g s a) ∧ I (g s a)) → I s → eachS f xs (i : Int) s = some (xs.foldl g s)
 | [], i, s, h, hs => rfl
 | a :: xs, i, s, h, hs => by
  obtain ⟨h1, h2⟩ := h i a (Nat.le_refl _) (by simp) s hs
  rw [eachS, h1, bsm, List.foldl_cons]
  have := eachS_fold xs (i + 1) (g s a) (fun j b hj hb => h j b (by omega) (by simp [hb])) h2
  rw [show (i : Int) + 1 = ((i + 1 : Nat) : Int) by omega]
  exact this
end Go.Proofs.YtibenpfnlajakaaDoor
namespace Go.Proofs.YtibenpfnlajakaaDoor
open Go.Abs Go.Proofs.Tz
theorem q94_iff (x y : Stand_child) : q94 x y = true ↔ x = y := by
 cases x; cases y
 simp [q94]
theorem mfd_append {K W : Type} (q : K → K → Bool) (k k' : K) (w : W) : ∀ (m : List (K × W)) (i : Nat), (mfd q k (m ++ [(k', w)]) i).map (·.2) = match (mfd q k m i).map (·.2) with
  | some v => some v
  | none => bif q k k' then some w else none
 | [], i => by
  simp only [List.nil_append, mfd]
  cases q k k' <;> rfl
 | p :: m, i => by
  simp only [List.cons_append, mfd]
  cases q k p.1 with
  | true => rfl
  | false => simp only [cond_false]; exact mfd_append q k k' w m (i + 1)
theorem mget_append {K W : Type} (q : K → K → Bool) (m : List (K × W)) (k k' : K) (w : W) : mget q (m ++ [(k', w)]) k = match mget q m k with
  | some v => some v
  | none => bif q k k' then some w else none := mfd_append q k k' w m 0
def MapOk (m : List (Stand_child × StandRatio)) (mg : Stand_child → StandRatio) : Prop := ∀ k v, mget q94 m k = some v → v = mg k
theorem mapOk_nil (mg : Stand_child → StandRatio) : MapOk [] mg := fun k v h => by cases h
section
variable {b : StandBook} {l : Stand_load}
theorem p73_core (hb : Sm b) (ts : List (Nat → Int)) {s : Int × Int × Int} (hs : SB 10 s) (hmb : MB (topL b s, s.1)) (v T B : Int) (hst : v = 0 ∨ MB (T, B)) :
  (((ixN 2 b.Kind).bind fun j => match j with | 0 => (g121 b ts l ⟨s.1, s.2.1, s.2.2⟩).bind fun r0_1 => some r0_1 | 1 => (g122 b ts l ⟨s.1, s.2.1, s.2.2⟩).bind fun r0_1_1 => some r0_1_1 | _ => none).bind fun Top1 => (bif (decide (v = 0)) then (some true) else ((g103 (StandRatio.mk Top1 s.1) (StandRatio.mk T B)).bind fun r0_2 => some r0_2)).bind fun v1 => bif v1 then (some (Top1, s.1)) else (some (T, B))) =
   some (bif decide (v = 0) then (topL b s, s.1) else bif decide (topL b s * B < T * s.1) then (topL b s, s.1) else (T, B)) := by
 obtain ⟨w, m, h⟩ := s
 simp only at hmb ⊢
 have e : ((ixN 2 b.Kind).bind fun j => match j with | 0 => (g121 b ts l ⟨w, m, h⟩).bind fun r0_1 => some r0_1 | 1 => (g122 b ts l ⟨w, m, h⟩).bind fun r0_1_1 => some r0_1_1 | _ => none) = some (topL b (w, m, h)) := by
  rcases hb.kind with hk | hk
  ·rw [hk, show ixN 2 0 = some 0 from rfl]
   simp only [bsm]
   rw [p121 hb hk ts l hs]; rfl
  ·rw [hk, show ixN 2 1 = some 1 from rfl]
   simp only [bsm]
   rw [p122 hb hk ts l hs]; rfl
 refine Eq.trans (congrArg (fun o => Option.bind o _) e) ?_
 rw [bsm]
 by_cases hv : v = 0
 ·simp only [hv, decide_true, cond_true, bsm]
 ·have hst' : MB (T, B) := by rcases hst with h | h; exact absurd h hv; exact h
  simp only [decide_eq_false hv, cond_false, g103, bsm]
  have e1 : wr (topL b (w, m, h) * B) = topL b (w, m, h) * B := mb_wr (x := (topL b (w, m, h), w)) hmb hst'
  have e2 : wr (T * w) = T * w := mb_wr (y := (topL b (w, m, h), w)) hst' hmb
  rw [e1, e2]
  cases decide (topL b (w, m, h) * B < T * w) <;> rfl
theorem p73_step (hb : Sm b) (hp4 : b.Parts.length ≤ 4) (hl : LB l) (hl0 : 0 ≤ l.weight) (ts : List (Nat → Int)) {c : Stand_child} (hc : CB c.weight c.lean) (hw : 1 ≤ c.weight) {a : Nat → Int} (ha : ∀ j, NB (a j) ∧ 0 ≤ a j) (v : Int) (st : Int × Int) (hst : v = 0 ∨ MB st) :
  g73a_8 b ts l c v a st = some (bif decide (v = 0) then mgL b l (wl b a) c.weight c.lean else mstep (fun a => mgL b l (wl b a) c.weight c.lean) st a) := by
 have hn : ∀ n, n ∈ wl b a → NB n ∧ 0 ≤ n := by
  intro n hn
  unfold wl at hn
  rw [List.mem_map] at hn
  obtain ⟨j, _, rfl⟩ := hn
  exact ha j
 have hmb := mgL_mb hb hl hl0 hn hc hw
 have hs := sm_sb hb hl (fun n h => (hn n h).1) hc
 obtain ⟨T, B⟩ := st
 simp only [g73a_8]
 rw [p95 hb hp4 ts hl (fun j _ => (ha j).1) hc, bsm]
 exact p73_core hb ts hs hmb v T B hst
theorem p73_loop (hb : Sm b) (hp4 : b.Parts.length ≤ 4) (hl : LB l) (hl0 : 0 ≤ l.weight) (ts : List (Nat → Int)) (hts : ∀ a, a ∈ ts → ∀ j, NB (a j) ∧ 0 ≤ a j) {c : Stand_child} (hc : CB c.weight c.lean) (hw : 1 ≤ c.weight) (hne : ts ≠ []) :
  eachS (g73a_8 b ts l c) ts 0 (0, 0) = some (leastM (fun a => mgL b l (wl b a) c.weight c.lean) ts) ∧ MB (leastM (fun a => mgL b l (wl b a) c.weight c.lean) ts) := by
 have hmb : ∀ a, a ∈ ts → MB (mgL b l (wl b a) c.weight c.lean) := fun a ha => mgL_mb hb hl hl0 (fun n hn => by
  unfold wl at hn
  rw [List.mem_map] at hn
  obtain ⟨j, _, rfl⟩ := hn
  exact hts a ha j) hc hw
 have hfold : ∀ (xs : List (Nat → Int)), (∀ a, a ∈ xs → a ∈ ts) → ∀ st, MB st → MB (xs.foldl (mstep fun a => mgL b l (wl b a) c.weight c.lean) st) := by
  intro xs
  induction xs with
  | nil => intro _ st h; exact h
  | cons a xs ih => intro h st hst; exact ih (fun x hx => h x (by simp [hx])) _ (mstep_mb hst (hmb a (h a (by simp))))
 cases hts' : ts with
 | nil => exact absurd hts' hne
 | cons a rest =>
  have ha : a ∈ ts := by rw [hts']; simp
  have hr : ∀ x, x ∈ rest → x ∈ ts := fun x hx => by rw [hts']; simp [hx]
  rw [← hts']
  refine ⟨?_, by rw [hts']; exact hfold rest hr _ (hmb a ha)⟩
  conv => lhs; arg 2; rw [hts']
  rw [eachS, p73_step hb hp4 hl hl0 ts hc hw (hts a ha) 0 (0, 0) (.inl rfl), bsm]
  simp only [decide_true, cond_true]
  have := eachS_fold (f := g73a_8 b ts l c) (g := mstep fun a => mgL b l (wl b a) c.weight c.lean) (I := MB) rest 1 (mgL b l (wl b a) c.weight c.lean) (fun j x hj hx s hs => by
   refine ⟨?_, mstep_mb hs (hmb x (hr x hx))⟩
   rw [p73_step hb hp4 hl hl0 ts hc hw (hts x (hr x hx)) (j : Int) s (.inr hs)]
   have : decide ((j : Int) = 0) = false := by simp; omega
   rw [this]; rfl) (hmb a ha)
  rw [show (0 : Int) + 1 = ((1 : Nat) : Int) from rfl, this, hts']
  rfl
theorem p73a (hb : Sm b) (hp4 : b.Parts.length ≤ 4) (hl : LB l) (hl0 : 0 ≤ l.weight) (ts : List (Nat → Int)) (hts : ∀ a, a ∈ ts → ∀ j, NB (a j) ∧ 0 ≤ a j) (hne : ts ≠ []) {mg : Stand_child → StandRatio} (hmg : ∀ c : Stand_child, CB c.weight c.lean → 1 ≤ c.weight → mg c = low (leastM (fun a => mgL b l (wl b a) c.weight c.lean) ts)) {c : Stand_child} (hc : CB c.weight c.lean) (hw : 1 ≤ c.weight) {m : List (Stand_child × StandRatio)} (hm : MapOk m mg) :
  ∃ m', g73a b ts l c m = some (mg c, m') ∧ MapOk m' mg := by
 unfold g73a
 cases hk : mget q94 m c with
 | some v => exact ⟨m, by simp [hm c v hk], hm⟩
 | none =>
  obtain ⟨h1, h2⟩ := p73_loop hb hp4 hl hl0 ts hts hc hw hne
  simp only [Option.isSome_none, cond_false, g96, bsm]
  rw [h1, bsm, p97 h2, bsm, ← hmg c hc hw]
  have e : mput q94 m c (mg c) = some (m ++ [(c, mg c)]) := by unfold mput; rw [hk]; rfl
  rw [e, bsm]
  have hq : q94 c c = true := (q94_iff c c).2 rfl
  refine ⟨m ++ [(c, mg c)], by rw [mget_append, hk]; simp [hq], fun k v hv => ?_⟩
  rw [mget_append] at hv
  cases hk2 : mget q94 m k with
  | some v' => rw [hk2] at hv; cases hv; exact hm k v hk2
  | none =>
   rw [hk2] at hv
   simp only at hv
   cases hq2 : q94 k c with
   | false => rw [hq2] at hv; cases hv
   | true => rw [hq2] at hv; cases hv; rw [(q94_iff k c).1 hq2]
end
end Go.Proofs.YtibenpfnlajakaaDoor
namespace Go.Proofs.YtibenpfnlajakaaDoor
open Go.Abs Go.Proofs.Tz
theorem arrs_ge : ∀ (ps : List StandPart), (∀ p, p ∈ ps → VP p) → ∀ (w : Nat → Int) (k : Nat) (a : Nat → Int), (∀ j, 0 ≤ w j) → a ∈ arrs ps w k → ∀ j, 0 ≤ a j
 | [], hv, w, k, a, hw, h, j => by simp [arrs] at h; subst h; exact hw j
 | p :: ps, hv, w, k, a, hw, h, j => by
  simp only [arrs, List.mem_flatMap] at h
  obtain ⟨n, hn, ha⟩ := h
  have hr := rng_mem hn
  have hp := hv p (by simp)
  refine arrs_ge ps (fun q hq => hv q (by simp [hq])) _ (k + 1) a (fun j => ?_) ha j
  by_cases e : j = k
  ·subst e; rw [aset_at]; have := hp.lo; omega
  ·rw [aset_ne _ _ e]; exact hw j
theorem arr0_ge (j : Nat) : 0 ≤ arr0 j := by
 match j with
 | 0 => decide
 | 1 => decide
 | 2 => decide
 | 3 => decide
 | j + 4 => exact Int.le_refl 0
theorem truths_ge {b : StandBook} (h : Ok b) {a : Nat → Int} (ha : a ∈ truths b) (j : Nat) : NB (a j) ∧ 0 ≤ a j :=
 ⟨truths_nb h ha j, arrs_ge b.Parts h.vp arr0 0 a arr0_ge (List.mem_filter.1 ha).1 j⟩
def marg (b : StandBook) (weight lean : Int) : StandRatio := low (leastM (fun a => mgL b z0 (wl b a) weight lean) (truths b))
theorem er_ok {b : StandBook} {is : Bool} (he : decide (er b is ≠ 0) = false) : okB b = true ∧ is = true ∧ truths b ≠ [] := by
 have hok : okB b = true := by
  cases h : okB b with
  | true => rfl
  | false => rw [er_bad h] at he; cases he
 have his : is = true := by
  cases is with
  | true => rfl
  | false => rw [er_false] at he; cases he
 refine ⟨hok, his, fun h => ?_⟩
 unfold er at he
 rw [hok, his, h] at he
 cases he
theorem stood_ok : g24 = some true := by kernel_rfl
end Go.Proofs.YtibenpfnlajakaaDoor
namespace Go.Proofs.YtibenpfnlajakaaDoor
open Go.Abs Go.Proofs.Tz
theorem fold_least {α : Type} (f : α → Int × Int) : ∀ (xs : List α) (st : Int × Int), 1 ≤ st.2 → (∀ a, a ∈ xs → 1 ≤ (f a).2) →
  1 ≤ (xs.foldl (mstep f) st).2 ∧ ((xs.foldl (mstep f) st).1 < 0 ↔ st.1 < 0 ∨ ∃ a, a ∈ xs ∧ (f a).1 < 0)
 | [], st, h, hx => by simp [h]
 | a :: xs, st, h, hx => by
  have ha := hx a (by simp)
  have h1 : 1 ≤ (mstep f st a).2 := by unfold mstep; cases decide ((f a).1 * st.2 < st.1 * (f a).2) <;> assumption
  obtain ⟨i1, i2⟩ := fold_least f xs (mstep f st a) h1 (fun b hb => hx b (by simp [hb]))
  refine ⟨i1, ?_⟩
  rw [List.foldl_cons, i2]
  have key : (mstep f st a).1 < 0 ↔ st.1 < 0 ∨ (f a).1 < 0 := by
   unfold mstep
   by_cases hd : (f a).1 * st.2 < st.1 * (f a).2
   ·rw [decide_eq_true hd]
    simp only [cond_true]
    refine ⟨.inr, fun hh => ?_⟩
    rcases hh with hh | hh
    ·by_cases h0 : (f a).1 < 0
     ·exact h0
     ·have e1 : 0 ≤ (f a).1 * st.2 := Int.mul_nonneg (by omega) (by omega)
      have e2 : st.1 * (f a).2 < 0 := Int.mul_neg_of_neg_of_pos hh (by omega)
      omega
    ·exact hh
   ·rw [decide_eq_false hd]
    simp only [cond_false]
    refine ⟨.inl, fun hh => ?_⟩
    rcases hh with hh | hh
    ·exact hh
    ·by_cases h0 : st.1 < 0
     ·exact h0
     ·have e1 : 0 ≤ st.1 * (f a).2 := Int.mul_nonneg (by omega) (by omega)
      have e2 : (f a).1 * st.2 < 0 := Int.mul_neg_of_neg_of_pos hh (by omega)
      omega
  rw [key]
  simp only [List.mem_cons, exists_eq_or_imp, or_assoc]
theorem low_top {x : Int × Int} (h : MB x) : ∃ k : Int, x.1 = gcI x.1 x.2 * k ∧ (low x).Top = k ∧ 0 < gcI x.1 x.2 := by
 have hg : 0 < gcI x.1 x.2 := by
  have : 0 < Nat.gcd x.1.natAbs x.2.natAbs := Nat.gcd_pos_of_pos_right _ (by have := h.2.1; omega)
  unfold gcI; omega
 have hd : gcI x.1 x.2 ∣ x.1 := by
  unfold gcI
  exact Int.natAbs_dvd_natAbs.1 (by simpa using Nat.gcd_dvd_left x.1.natAbs x.2.natAbs)
 obtain ⟨k, hk⟩ := hd
 generalize hgg : gcI x.1 x.2 = g at hk hg
 refine ⟨k, hk, ?_, hg⟩
 have e : x.1.tdiv g = k := by rw [hk]; exact Int.mul_tdiv_cancel_left k (by omega)
 have hb : Bd 2000000000 k := by
  obtain ⟨⟨h1, h2⟩, _⟩ := h
  have : k.natAbs ≤ x.1.natAbs := by
   rw [hk, Int.natAbs_mul]
   exact Nat.le_mul_of_pos_left _ (by omega)
  constructor <;> omega
 show wr (x.1.tdiv (gcI x.1 x.2)) = k
 rw [hgg, e, hb.wr (by omega)]
theorem low_neg {x : Int × Int} (h : MB x) : (low x).Top < 0 ↔ x.1 < 0 := by
 obtain ⟨k, h1, h2, h3⟩ := low_top h
 rw [h2]
 constructor
 ·intro hk
  rw [h1]
  exact Int.mul_neg_of_pos_of_neg h3 hk
 ·intro hx
  by_cases hk : k < 0
  ·exact hk
  ·have := Int.mul_nonneg (Int.le_of_lt h3) (show 0 ≤ k by omega)
   omega
theorem ld_shift : ∀ (ps : List StandPart) (ns : List Int) (s : Int × Int × Int) (a c d : Int), ld ps ns (s.1 + a, s.2.1 + c, s.2.2 + d) = ((ld ps ns s).1 + a, (ld ps ns s).2.1 + c, (ld ps ns s).2.2 + d)
 | [], ns, s, a, c, d => by simp [ld]
 | p :: ps, [], s, a, c, d => by simp [ld]
 | p :: ps, n :: ns, s, a, c, d => by
  rw [ld, ld, ← ld_shift ps ns (s.1 + n, s.2.1 + n * p.Along, s.2.2 + n * p.High) a c d]
  simp only
  congr 2
  ·omega
  ·congr 1 <;> omega
theorem sm_lean (b : StandBook) (l : Stand_load) (ns : List Int) (weight lean : Int) : sm b l ns weight lean = ((sm b l ns weight 0).1, (sm b l ns weight 0).2.1 + weight * lean, (sm b l ns weight 0).2.2) := by
 have := ld_shift b.Parts ns (s0 b l weight 0) 0 (weight * lean) 0
 unfold sm
 rw [Int.add_zero, Int.add_zero] at this
 have e : s0 b l weight lean = ((s0 b l weight 0).1 + 0, (s0 b l weight 0).2.1 + weight * lean, (s0 b l weight 0).2.2 + 0) := by
  unfold s0; simp only [Int.add_zero, Int.mul_add]; simp [Int.add_assoc]
 rw [e, ld_shift]; simp
end Go.Proofs.YtibenpfnlajakaaDoor
namespace Go.Proofs.YtibenpfnlajakaaDoor
open Go.Abs Go.Proofs.Tz
theorem top_lean {b : StandBook} (hr : 0 ≤ b.Radius) (l : Stand_load) (ns : List Int) {weight : Int} (hw : 0 ≤ weight) : ∃ A B c : Int, 0 ≤ c ∧ ∀ lean, topL b (sm b l ns weight lean) = min (A + c * lean) (B - c * lean) := by
 generalize hs : sm b l ns weight 0 = s
 obtain ⟨w, m, h⟩ := s
 have hl : ∀ lean, sm b l ns weight lean = (w, m + weight * lean, h) := fun lean => by rw [sm_lean, hs]
 by_cases hk : b.Kind = 0
 ·refine ⟨b.Back * w + m, b.Front * w - m, weight, hw, fun lean => ?_⟩
  rw [hl]
  simp only [topL, hk, decide_true, cond_true]
  rw [Int.add_assoc, Int.sub_sub]
 ·refine ⟨b.Back * (b.Radius * w - h) + b.Radius * m, b.Front * (b.Radius * w - h) - b.Radius * m, b.Radius * weight, Int.mul_nonneg hr hw, fun lean => ?_⟩
  rw [hl]
  simp only [topL, hk, decide_false, cond_false]
  rw [Int.mul_add, Int.mul_assoc, Int.add_assoc, Int.sub_sub]
theorem ends {b : StandBook} (hr : 0 ≤ b.Radius) (l : Stand_load) (ns : List Int) {weight : Int} (hw : 0 ≤ weight) {L lean : Int} (h1 : -L ≤ lean) (h2 : lean ≤ L) (ha : 0 ≤ topL b (sm b l ns weight (-L))) (hb : 0 ≤ topL b (sm b l ns weight L)) : 0 ≤ topL b (sm b l ns weight lean) := by
 obtain ⟨A, B, c, hc, h⟩ := top_lean hr l ns hw
 rw [h] at ha hb ⊢
 have e1 : c * (-L) ≤ c * lean := Int.mul_le_mul_of_nonneg_left h1 hc
 have e2 : c * lean ≤ c * L := Int.mul_le_mul_of_nonneg_left h2 hc
 omega
end Go.Proofs.YtibenpfnlajakaaDoor
namespace Go.Proofs.YtibenpfnlajakaaDoor
open Go.Abs Go.Proofs.Tz
structure Wd (b : StandBook) (l : Stand_load) (ts : List (Nat → Int)) (mg : Stand_child → StandRatio) : Prop where
 sb : Sm b
 p4 : b.Parts.length ≤ 4
 lb : LB l
 l0 : 0 ≤ l.weight
 nb : ∀ a, a ∈ ts → ∀ j, NB (a j) ∧ 0 ≤ a j
 ne : ts ≠ []
 is : ∀ c : Stand_child, CB c.weight c.lean → 1 ≤ c.weight → mg c = low (leastM (fun a => mgL b l (wl b a) c.weight c.lean) ts)
 hle : 0 ≤ b.Lean_ ∧ b.Lean_ ≤ 12
 rad : 0 ≤ b.Radius
section
variable {b : StandBook} {l : Stand_load} {ts : List (Nat → Int)} {mg : Stand_child → StandRatio}
theorem Wd.g73 (h : Wd b l ts mg) {c : Stand_child} (hc : CB c.weight c.lean) (hw : 1 ≤ c.weight) {m : List (Stand_child × StandRatio)} (hm : MapOk m mg) : ∃ m', g73a b ts l c m = some (mg c, m') ∧ MapOk m' mg :=
 p73a h.sb h.p4 h.lb h.l0 ts h.nb h.ne h.is hc hw hm
theorem Wd.neg (h : Wd b l ts mg) {c : Stand_child} (hc : CB c.weight c.lean) (hw : 1 ≤ c.weight) : (mg c).Top < 0 ↔ ∃ a, a ∈ ts ∧ topL b (sm b l (wl b a) c.weight c.lean) < 0 := by
 rw [h.is c hc hw]
 obtain ⟨_, hmb⟩ := p73_loop h.sb h.p4 h.lb h.l0 ts h.nb hc hw h.ne
 rw [low_neg hmb]
 have hp : ∀ a, a ∈ ts → 1 ≤ (mgL b l (wl b a) c.weight c.lean).2 := fun a ha => (mgL_mb h.sb h.lb h.l0 (fun n hn => by
  unfold wl at hn
  rw [List.mem_map] at hn
  obtain ⟨j, _, rfl⟩ := hn
  exact h.nb a ha j) hc hw).2.1
 cases hts : ts with
 | nil => exact absurd hts h.ne
 | cons a rest =>
  have := (fold_least (fun a => mgL b l (wl b a) c.weight c.lean) rest _ (hp a (by rw [hts]; simp)) (fun x hx => hp x (by rw [hts]; simp [hx]))).2
  refine Iff.trans this ?_
  simp only [List.mem_cons, exists_eq_or_imp]
  rfl
def safeM (b : StandBook) (mg : Stand_child → StandRatio) (w : Int) : Bool := decide (0 ≤ (mg ⟨w, -b.Lean_⟩).Top) && decide (0 ≤ (mg ⟨w, b.Lean_⟩).Top)
theorem Wd.g76 (h : Wd b l ts mg) {w : Int} (hw : 1 ≤ w) (hw' : w ≤ 100) {m : List (Stand_child × StandRatio)} (hm : MapOk m mg) : ∃ m', g76a b ts l w m = some (safeM b mg w, m') ∧ MapOk m' mg := by
 have hl := h.hle
 have e : wr (-b.Lean_) = -b.Lean_ := wr_in (by omega) (by omega)
 obtain ⟨m1, e1, k1⟩ := h.g73 (c := ⟨w, -b.Lean_⟩) ⟨⟨by simp only; omega, hw'⟩, ⟨by simp only; omega, by simp only; omega⟩⟩ hw hm
 obtain ⟨m2, e2, k2⟩ := h.g73 (c := ⟨w, b.Lean_⟩) ⟨⟨by simp only; omega, hw'⟩, ⟨by simp only; omega, by simp only; omega⟩⟩ hw k1
 unfold g76a safeM
 rw [e, e1, bsm]
 cases hd : decide (0 ≤ (mg ⟨w, -b.Lean_⟩).Top) with
 | false => exact ⟨m1, by simp [hd, bsm], k1⟩
 | true => exact ⟨m2, by simp only [hd, cond_true, e2, bsm, Bool.true_and], k2⟩
theorem Wd.safe_iff (h : Wd b l ts mg) {w : Int} (hw : 1 ≤ w) (hw' : w ≤ 100) : safeM b mg w = true ↔ ∀ a, a ∈ ts → ∀ lean, -b.Lean_ ≤ lean → lean ≤ b.Lean_ → 0 ≤ topL b (sm b l (wl b a) w lean) := by
 have hl := h.hle
 have n1 := h.neg (c := ⟨w, -b.Lean_⟩) ⟨⟨by simp only; omega, hw'⟩, ⟨by simp only; omega, by simp only; omega⟩⟩ hw
 have n2 := h.neg (c := ⟨w, b.Lean_⟩) ⟨⟨by simp only; omega, hw'⟩, ⟨by simp only; omega, by simp only; omega⟩⟩ hw
 unfold safeM
 rw [Bool.and_eq_true, decide_eq_true_eq, decide_eq_true_eq]
 constructor
 ·rintro ⟨h1, h2⟩ a ha lean hle hle'
  refine ends h.rad l (wl b a) (by omega) hle hle' ?_ ?_
  ·by_cases hx : topL b (sm b l (wl b a) w (-b.Lean_)) < 0
   ·have := n1.2 ⟨a, ha, hx⟩; omega
   ·omega
  ·by_cases hx : topL b (sm b l (wl b a) w b.Lean_) < 0
   ·have := n2.2 ⟨a, ha, hx⟩; omega
   ·omega
 ·intro hall
  constructor
  ·by_cases hx : (mg ⟨w, -b.Lean_⟩).Top < 0
   ·obtain ⟨a, ha, h0⟩ := n1.1 hx
    have := hall a ha (-b.Lean_) (by omega) (by omega)
    simp only at h0; omega
   ·omega
  ·by_cases hx : (mg ⟨w, b.Lean_⟩).Top < 0
   ·obtain ⟨a, ha, h0⟩ := n2.1 hx
    have := hall a ha b.Lean_ (by omega) (by omega)
    simp only at h0; omega
   ·omega
end
end Go.Proofs.YtibenpfnlajakaaDoor
namespace Go.Proofs.YtibenpfnlajakaaDoor
open Go.Abs Go.Proofs.Tz
theorem sm_weight (b : StandBook) (l : Stand_load) (ns : List Int) (weight lean : Int) : sm b l ns weight lean = ((sm b l ns 0 0).1 + weight, (sm b l ns 0 0).2.1 + weight * (b.Along + lean), (sm b l ns 0 0).2.2 + weight * b.High) := by
 unfold sm
 have e0 : s0 b l 0 0 = (l.weight, l.along, l.high) := by unfold s0; simp
 have e : s0 b l weight lean = ((s0 b l 0 0).1 + weight, (s0 b l 0 0).2.1 + weight * (b.Along + lean), (s0 b l 0 0).2.2 + weight * b.High) := by rw [e0]; rfl
 rw [e, ld_shift]
theorem top_weight (b : StandBook) (l : Stand_load) (ns : List Int) (lean : Int) : ∃ A B c d : Int, ∀ weight, topL b (sm b l ns weight lean) = min (A + c * weight) (B + d * weight) := by
 generalize hs : sm b l ns 0 0 = s
 obtain ⟨w, m, h⟩ := s
 have hl : ∀ weight, sm b l ns weight lean = (w + weight, m + weight * (b.Along + lean), h + weight * b.High) := fun weight => by rw [sm_weight, hs]
 by_cases hk : b.Kind = 0
 ·refine ⟨b.Back * w + m, b.Front * w - m, b.Back + (b.Along + lean), b.Front - (b.Along + lean), fun weight => ?_⟩
  rw [hl]
  simp only [topL, hk, decide_true, cond_true]
  congr 1 <;> grind
 ·refine ⟨b.Back * (b.Radius * w - h) + b.Radius * m, b.Front * (b.Radius * w - h) - b.Radius * m, b.Back * (b.Radius - b.High) + b.Radius * (b.Along + lean), b.Front * (b.Radius - b.High) - b.Radius * (b.Along + lean), fun weight => ?_⟩
  rw [hl]
  simp only [topL, hk, decide_false, cond_false]
  congr 1 <;> grind
theorem affine {A c w L : Int} (h1 : 1 ≤ w) (h2 : w ≤ L) (ha : 0 ≤ A + c * 1) (hb : 0 ≤ A + c * L) : 0 ≤ A + c * w := by
 by_cases hc : 0 ≤ c
 ·have := Int.mul_le_mul_of_nonneg_left h1 hc; omega
 ·have : c * L ≤ c * w := by
   have := Int.mul_le_mul_of_nonneg_left h2 (show 0 ≤ -c by omega)
   rw [Int.neg_mul, Int.neg_mul] at this; omega
  omega
theorem ends_weight (b : StandBook) (l : Stand_load) (ns : List Int) (lean : Int) {w L : Int} (h1 : 1 ≤ w) (h2 : w ≤ L) (ha : 0 ≤ topL b (sm b l ns 1 lean)) (hb : 0 ≤ topL b (sm b l ns L lean)) : 0 ≤ topL b (sm b l ns w lean) := by
 obtain ⟨A, B, c, d, h⟩ := top_weight b l ns lean
 rw [h] at ha hb ⊢
 have h3 := affine h1 h2 (A := A) (c := c) (by omega) (by omega)
 have h4 := affine h1 h2 (A := B) (c := d) (by omega) (by omega)
 omega
def allI (p : Int → Bool) : Nat → Int → Bool
 | 0, _ => true
 | n + 1, i => p i && allI p n (i + 1)
theorem allI_iff {p : Int → Bool} : ∀ {n : Nat} {i : Int}, allI p n i = true ↔ ∀ j, i ≤ j → j < i + n → p j = true
 | 0, i => ⟨fun _ j h1 h2 => by omega, fun _ => rfl⟩
 | n + 1, i => by
  rw [allI, Bool.and_eq_true, allI_iff]
  constructor
  ·rintro ⟨h0, h⟩ j h1 h2
   by_cases e : j = i
   ·rw [e]; exact h0
   ·exact h j (by omega) (by omega)
  ·intro h
   exact ⟨h i (by omega) (by omega), fun j h1 h2 => h j (by omega) (by omega)⟩
def firstI (p : Int → Bool) : Nat → Int → Option Int
 | 0, _ => none
 | n + 1, i => bif p i then some i else firstI p n (i + 1)
theorem firstI_none {p : Int → Bool} : ∀ {n : Nat} {i : Int}, firstI p n i = none ↔ ∀ j, i ≤ j → j < i + n → p j = false
 | 0, i => ⟨fun _ j h1 h2 => by omega, fun _ => rfl⟩
 | n + 1, i => by
  rw [firstI]
  cases h0 : p i with
  | true => exact ⟨fun h => by (cases h), fun h => by have := h i (by omega) (by omega); rw [h0] at this; cases this⟩
  | false =>
   rw [cond_false, firstI_none]
   constructor
   ·intro h j h1 h2
    by_cases e : j = i
    ·rw [e]; exact h0
    ·exact h j (by omega) (by omega)
   ·intro h j h1 h2; exact h j (by omega) (by omega)
theorem firstI_some {p : Int → Bool} : ∀ {n : Nat} {i j : Int}, firstI p n i = some j → i ≤ j ∧ j < i + n ∧ p j = true ∧ ∀ k, i ≤ k → k < j → p k = false
 | 0, i, j, h => by cases h
 | n + 1, i, j, h => by
  rw [firstI] at h
  cases h0 : p i with
  | true => rw [h0] at h; cases h; exact ⟨by omega, by omega, h0, fun k h1 h2 => by omega⟩
  | false =>
   rw [h0, cond_false] at h
   obtain ⟨h1, h2, h3, h4⟩ := firstI_some h
   refine ⟨by omega, by omega, h3, fun k hk hk' => ?_⟩
   by_cases e : k = i
   ·rw [e]; exact h0
   ·exact h4 k (by omega) hk'
theorem firstI_shift {p : Int → Bool} : ∀ {n : Nat} {i d : Int}, firstI p n (i + d) = (firstI (fun j => p (j + d)) n i).map (· + d)
 | 0, i, d => rfl
 | n + 1, i, d => by
  rw [firstI, firstI, show i + d + 1 = i + 1 + d by omega, firstI_shift]
  cases p (i + d) <;> rfl
theorem forC_first {S R : Type} {f : Int → S → Option (Ctl S R)} (I : S → Prop) (p : Int → Bool) (r : Int → R) : ∀ (n : Nat) (i : Int) (s : S), I s →
  (∀ j s, i ≤ j → j < i + n → I s → ∃ s', I s' ∧ f j s = some (bif p j then .brk (r j) else .next s')) →
  ∃ s', I s' ∧ forC f n i s = some (match firstI p n i with | some j => .brk (r j) | none => .next s')
 | 0, i, s, hs, h => ⟨s, hs, rfl⟩
 | n + 1, i, s, hs, h => by
  obtain ⟨s1, h1, e1⟩ := h i s (by omega) (by omega) hs
  rw [forC, e1, bsm, firstI]
  cases p i with
  | true => exact ⟨s1, h1, rfl⟩
  | false => exact forC_first I p r n (i + 1) s1 h1 (fun j s k1 k2 => h j s (by omega) (by omega))
theorem forC_firstU {R : Type} {f : Int → Unit → Option (Ctl Unit R)} (p : Int → Bool) (r : Int → R) (n : Nat) (i : Int) (h : ∀ j, i ≤ j → j < i + n → f j () = some (bif p j then .brk (r j) else .next ())) :
  forC f n i () = some (match firstI p n i with | some j => .brk (r j) | none => .next ()) := by
 obtain ⟨s, _, e⟩ := forC_first (fun _ => True) p r n i () trivial (fun j s h1 h2 _ => ⟨(), trivial, h j h1 h2⟩)
 exact e
end Go.Proofs.YtibenpfnlajakaaDoor
namespace Go.Proofs.YtibenpfnlajakaaDoor
open Go.Abs Go.Proofs.Tz
structure SpB (x : StandBook) (l : List (List Int)) : Prop where
 hsm : Sm x
 len : ∀ ns, ns ∈ l → ns.length ≤ x.Parts.length
 nb : ∀ ns, ns ∈ l → ∀ n, n ∈ ns → NB n
 lean : 0 ≤ x.Lean_ ∧ x.Lean_ ≤ 12
 lim : 1 ≤ x.Limit ∧ x.Limit ≤ 60
def safeL (x : StandBook) (l : List (List Int)) (w : Int) : Bool := l.all fun ns => allI (fun lean => !tipB x w lean ns) (2 * x.Lean_ + 1).toNat (-x.Lean_)
def leastL (x : StandBook) (l : List (List Int)) : Int := (firstI (fun w => !safeL x l w) x.Limit.toNat 1).getD 0
section
variable {x : StandBook} {l : List (List Int)}
theorem safeL_iff (h : 0 ≤ x.Lean_) {w : Int} : safeL x l w = true ↔ ∀ ns, ns ∈ l → ∀ lean, -x.Lean_ ≤ lean → lean ≤ x.Lean_ → 0 ≤ topL x (sm x z0 ns w lean) := by
 unfold safeL
 rw [List.all_eq_true]
 constructor
 ·intro ha ns hns lean h1 h2
  have := allI_iff.1 (ha ns hns) lean h1 (by omega)
  simp [tipB] at this; omega
 ·intro ha ns hns
  refine allI_iff.2 fun lean h1 h2 => ?_
  have := ha ns hns lean h1 (by omega)
  simp [tipB]; omega
end
def mgB (b : StandBook) (c : Stand_child) : StandRatio := marg b c.weight c.lean
theorem tl_mem {b : StandBook} {ns : List Int} : ns ∈ tl b ↔ ∃ a, a ∈ truths b ∧ wl b a = ns := by unfold tl; rw [List.mem_map]
theorem spB_of {b : StandBook} (h : Ok b) : SpB b (tl b) where
 hsm := h.sm
 len := fun ns hns => by obtain ⟨a, ha, rfl⟩ := tl_mem.1 hns; rw [wl_len]; omega
 nb := fun ns hns => by obtain ⟨a, ha, rfl⟩ := tl_mem.1 hns; exact wl_nb h.l4 (fun j _ => truths_nb h ha j)
 lean := h.lean
 lim := h.lim
theorem okB_rad {b : StandBook} (h : okB b = true) : 0 ≤ b.Radius := by
 simp only [okB, okHead, okTail, Bool.and_eq_true, rg_iff, decide_eq_true_eq, List.all_eq_true] at h
 obtain ⟨⟨⟨⟨⟨⟨⟨hk, hf⟩, hb⟩, hr⟩, hl⟩, _⟩, hp⟩, htr⟩ := h
 cases hd : decide (b.Kind = 1) <;> rw [hd] at hr
 ·simp only [cond_false, decide_eq_true_eq] at hr; omega
 ·simp only [cond_true, rg_iff] at hr; omega
theorem wd_of {b : StandBook} (hok : okB b = true) (hne : truths b ≠ []) : Wd b z0 (truths b) (mgB b) where
 sb := (ok_of hok).sm
 p4 := (ok_of hok).l4
 lb := lb_z0
 l0 := Int.le_refl 0
 nb := fun a ha => truths_ge (ok_of hok) ha
 ne := hne
 is := fun c _ _ => rfl
 hle := (ok_of hok).lean
 rad := okB_rad hok
def safeB (b : StandBook) (w : Int) : Bool := safeL b (tl b) w
theorem safe_eq {b : StandBook} (hok : okB b = true) (hne : truths b ≠ []) {w : Int} (h1 : 1 ≤ w) (h2 : w ≤ 100) : safeM b (mgB b) w = safeB b w := by
 rw [Bool.eq_iff_iff, (wd_of hok hne).safe_iff h1 h2]
 unfold safeB
 rw [safeL_iff (ok_of hok).lean.1]
 constructor
 ·intro h ns hns lean k1 k2
  obtain ⟨a, ha, rfl⟩ := tl_mem.1 hns
  exact h a ha lean k1 k2
 ·intro h a ha lean k1 k2
  exact h _ (tl_mem.2 ⟨a, ha, rfl⟩) lean k1 k2
def leastT (b : StandBook) : Int × Int :=
 let e := er b true
 bif decide (e ≠ 0) then (0, e) else match firstI (fun w => !safeB b w) b.Limit.toNat 1 with | some j => (j, 0) | none => (0, 4)
theorem p27 (b : StandBook) : g27 b = some (leastT b) := by
 unfold g27 leastT
 rw [p67]
 cases hok : okB b with
 | false =>
  simp only [Bool.false_and, cond_false]
  have : decide (er b true ≠ 0) = true := by rw [er_bad hok]; rfl
  simp only [bsm]
  rw [must_t this, this]; rfl
 | true =>
  simp only [Bool.and_true, cond_true, bsm]
  cases he : decide (er b true ≠ 0) with
  | true => rfl
  | false =>
   obtain ⟨_, _, hne⟩ := er_ok he
   have hl := (ok_of hok).lim
   simp only [cond_false]
   rw [must_t (by simp; omega), bsm]
   obtain ⟨m', _, e⟩ := forC_first (f := g27_10 b (truths b) z0) (fun m => MapOk m (mgB b)) (fun v => !safeB b (v + 1)) (fun v => (v + 1, (0 : Int))) (b.Limit - 0).toNat 0 [] (mapOk_nil _) (fun j m h1 h2 hm => by
    have e1 : wr (j + 1) = j + 1 := wr_in (by omega) (by omega)
    obtain ⟨m', e, hm'⟩ := (wd_of hok hne).g76 (w := j + 1) (by omega) (by omega) hm
    refine ⟨m', hm', ?_⟩
    unfold g27_10
    rw [e1, e, bsm, safe_eq hok hne (by omega) (by omega)]
    simp only [cs])
   rw [show (Stand_load.mk 0 0 0) = z0 from rfl, e]
   have := firstI_shift (p := fun w => !safeB b w) (n := b.Limit.toNat) (i := 0) (d := 1)
   rw [show (0 : Int) + 1 = 1 from rfl] at this
   rw [this, Int.sub_zero]
   cases firstI (fun j => !safeB b (j + 1)) b.Limit.toNat 0 <;> rfl
def ext (q : Int → Bool) (L : Int) : Int := match firstI (fun v => !q v) L.toNat 1 with | some j => j - 1 | none => L
end Go.Proofs.YtibenpfnlajakaaDoor
namespace Go.Proofs.YtibenpfnlajakaaDoor
open Go.Abs Go.Proofs.Tz
theorem Wd.g81 {y : StandBook} {l : Stand_load} {ts : List (Nat → Int)} {mg : Stand_child → StandRatio} (h : Wd y l ts mg) (hl : 1 ≤ y.Limit ∧ y.Limit ≤ 60) : ∃ m', g81a y ts l [] = some (safeM y mg 1 && safeM y mg y.Limit, m') := by
 obtain ⟨m1, e1, k1⟩ := h.g76 (w := 1) (by omega) (by omega) (mapOk_nil _)
 obtain ⟨m2, e2, k2⟩ := h.g76 (w := y.Limit) (by omega) (by omega) k1
 unfold g81a
 rw [e1, bsm]
 cases safeM y mg 1 with
 | false => exact ⟨m1, rfl⟩
 | true => exact ⟨m2, by simp only [cond_true, e2, bsm, Bool.true_and]⟩
theorem Wd.all_iff {y : StandBook} {l : Stand_load} {ts : List (Nat → Int)} {mg : Stand_child → StandRatio} (h : Wd y l ts mg) (hl : 1 ≤ y.Limit ∧ y.Limit ≤ 60) : (safeM y mg 1 && safeM y mg y.Limit) = true ↔ ∀ w, 1 ≤ w → w ≤ y.Limit → ∀ a, a ∈ ts → ∀ lean, -y.Lean_ ≤ lean → lean ≤ y.Lean_ → 0 ≤ topL y (sm y l (wl y a) w lean) := by
 rw [Bool.and_eq_true, h.safe_iff (by omega) (by omega), h.safe_iff (by omega) (by omega)]
 constructor
 ·rintro ⟨h1, h2⟩ w hw hw' a ha lean k1 k2
  exact ends_weight y l (wl y a) lean hw hw' (h1 a ha lean k1 k2) (h2 a ha lean k1 k2)
 ·intro hall
  exact ⟨fun a ha lean k1 k2 => hall 1 (by omega) hl.1 a ha lean k1 k2, fun a ha lean k1 k2 => hall y.Limit hl.1 (by omega) a ha lean k1 k2⟩
theorem leastL_zero {x : StandBook} {l : List (List Int)} (h : 0 ≤ x.Lean_) (hl : 1 ≤ x.Limit) : leastL x l = 0 ↔ ∀ w, 1 ≤ w → w ≤ x.Limit → ∀ ns, ns ∈ l → ∀ lean, -x.Lean_ ≤ lean → lean ≤ x.Lean_ → 0 ≤ topL x (sm x z0 ns w lean) := by
 have e : leastL x l = 0 ↔ firstI (fun w => !safeL x l w) x.Limit.toNat 1 = none := by
  unfold leastL
  cases hf : firstI (fun w => !safeL x l w) x.Limit.toNat 1 with
  | none => simp
  | some j =>
   have := (firstI_some hf).1
   simp only [Option.getD_some]
   constructor
   ·intro h0; omega
   ·intro h0; cases h0
 rw [e, firstI_none]
 constructor
 ·intro hall w hw hw'
  have := hall w hw (by omega)
  rw [Bool.not_eq_false'] at this
  exact (safeL_iff h).1 this
 ·intro hall w hw hw'
  rw [Bool.not_eq_false']
  exact (safeL_iff h).2 (hall w hw (by omega))
def widen (b : StandBook) (n : Int) : StandBook := ⟨b.Kind, b.Front + n, b.Back + n, b.Radius, b.Parts, b.Along, b.High, b.Lean_, b.Limit, b.Trials⟩
def widerOk (b : StandBook) (n : Int) : Bool := decide (leastL (widen b n) (tl b) = 0)
theorem spB_widen {b : StandBook} (hok : okB b = true) {n : Int} (hn : 0 ≤ n ∧ n ≤ 20) : SpB (widen b n) (tl b) where
 hsm := by
  have h := ok_of hok
  have hf : Bd 60 b.Front ∧ Bd 60 b.Back := by
   simp only [okB, okHead, okTail, Bool.and_eq_true, rg_iff, decide_eq_true_eq, List.all_eq_true] at hok
   obtain ⟨⟨⟨⟨⟨⟨⟨hk, hf⟩, hb⟩, hr⟩, hl⟩, _⟩, hp⟩, htr⟩ := hok
   exact ⟨⟨by omega, by omega⟩, ⟨by omega, by omega⟩⟩
  obtain ⟨⟨f1, f2⟩, ⟨f3, f4⟩⟩ := hf
  exact { kind := h.sm.kind, front := ⟨by simp only [widen]; omega, by simp only [widen]; omega⟩, back := ⟨by simp only [widen]; omega, by simp only [widen]; omega⟩, radius := h.sm.radius, along := h.sm.along, high := h.sm.high, parts := h.sm.parts, len := h.sm.len }
 len := (spB_of (ok_of hok)).len
 nb := (spB_of (ok_of hok)).nb
 lean := (ok_of hok).lean
 lim := (ok_of hok).lim
theorem widerOk_iff {b : StandBook} (hok : okB b = true) {n : Int} : widerOk b n = true ↔ ∀ w, 1 ≤ w → w ≤ b.Limit → ∀ a, a ∈ truths b → ∀ lean, -b.Lean_ ≤ lean → lean ≤ b.Lean_ → 0 ≤ topL (widen b n) (sm b z0 (wl b a) w lean) := by
 have h := ok_of hok
 unfold widerOk
 rw [decide_eq_true_eq, leastL_zero (x := widen b n) h.lean.1 h.lim.1]
 constructor
 ·intro hall w hw hw' a ha lean k1 k2
  exact hall w hw hw' (wl b a) (tl_mem.2 ⟨a, ha, rfl⟩) lean k1 k2
 ·intro hall w hw hw' ns hns lean k1 k2
  obtain ⟨a, ha, rfl⟩ := tl_mem.1 hns
  exact hall w hw hw' a ha lean k1 k2
def widerT (b : StandBook) : Int × Int :=
 let e := er b true
 bif decide (e ≠ 0) then (0, e) else match firstI (widerOk b) 21 0 with | some j => (j, 0) | none => (0, 4)
def mgY (y : StandBook) (l : Stand_load) (ts : List (Nat → Int)) (c : Stand_child) : StandRatio := low (leastM (fun a => mgL y l (wl y a) c.weight c.lean) ts)
theorem wd_wider {b : StandBook} (hok : okB b = true) (hne : truths b ≠ []) {n : Int} (hn : 0 ≤ n ∧ n ≤ 20) : Wd (widen b n) z0 (truths b) (mgY (widen b n) z0 (truths b)) where
 sb := (spB_widen hok hn).hsm
 p4 := (ok_of hok).l4
 lb := lb_z0
 l0 := Int.le_refl 0
 nb := fun a ha => truths_ge (ok_of hok) ha
 ne := hne
 is := fun c _ _ => rfl
 hle := (ok_of hok).lean
 rad := okB_rad (b := b) hok
theorem p33 (b : StandBook) : g33 b = some (widerT b) := by
 unfold g33 widerT
 rw [p67]
 cases hok : okB b with
 | false =>
  simp only [Bool.false_and, cond_false]
  have : decide (er b true ≠ 0) = true := by rw [er_bad hok]; rfl
  simp only [bsm]
  rw [must_t this, this]; rfl
 | true =>
  simp only [Bool.and_true, cond_true, bsm]
  cases he : decide (er b true ≠ 0) with
  | true => rfl
  | false =>
   obtain ⟨_, _, hne⟩ := er_ok he
   have h := ok_of hok
   simp only [cond_false]
   have := forC_firstU (f := g33_10 b (truths b) z0) (widerOk b) (fun v => (v, (0 : Int))) 21 0 (fun j h1 h2 => by
    have hf : Bd 200 b.Front ∧ Bd 200 b.Back := ⟨h.sm.front, h.sm.back⟩
    obtain ⟨⟨f1, f2⟩, f3, f4⟩ := hf
    have e1 : wr (b.Front + j) = b.Front + j := wr_in (by omega) (by omega)
    have e2 : wr (b.Back + j) = b.Back + j := wr_in (by omega) (by omega)
    have hwd := wd_wider hok hne (n := j) ⟨by omega, by omega⟩
    obtain ⟨m', e⟩ := hwd.g81 h.lim
    have eq : (safeM (widen b j) (mgY (widen b j) z0 (truths b)) 1 && safeM (widen b j) (mgY (widen b j) z0 (truths b)) (widen b j).Limit) = widerOk b j := by
     rw [Bool.eq_iff_iff, hwd.all_iff h.lim, widerOk_iff hok]
     rfl
    unfold g33_10 g80
    simp only [e1, e2, bsm]
    rw [show (StandBook.mk b.Kind (b.Front + j) (b.Back + j) b.Radius b.Parts b.Along b.High b.Lean_ b.Limit b.Trials) = widen b j from rfl, show (Stand_load.mk 0 0 0) = z0 from rfl, e, bsm, eq]
    exact cs _ _ _)
   rw [show (Stand_load.mk 0 0 0) = z0 from rfl, show ((21 : Int) - 0).toNat = 21 from rfl, this]
   cases firstI (widerOk b) 21 0 <;> rfl
theorem appL_ok {α : Type} {sz : Nat} {l m : List α} (h : (l ++ m).length * sz ≤ 140737488355328) : appL sz l m = some (l ++ m) := by
 unfold appL
 rw [roomB_ok h]; rfl
end Go.Proofs.YtibenpfnlajakaaDoor
namespace Go.Proofs.YtibenpfnlajakaaDoor
open Go.Abs Go.Proofs.Tz
section
variable {T s t : Nat}
end
def withT (b : StandBook) (ts : List StandTrial) : StandBook := ⟨b.Kind, b.Front, b.Back, b.Radius, b.Parts, b.Along, b.High, b.Lean_, b.Limit, ts⟩
theorem rng_ne {p : StandPart} (h : VP p) : rng p ≠ [] := by
 unfold rng cnt
 have := h.le
 have : (p.Weight.High + 1 - p.Weight.Low).toNat = (p.Weight.High - p.Weight.Low).toNat + 1 := by omega
 rw [this]
 simp [List.range'_succ]
theorem prods_ne : ∀ (ps : List StandPart), (∀ p, p ∈ ps → VP p) → ∃ l, l ∈ prods ps
 | [], h => ⟨[], by simp [prods]⟩
 | p :: ps, h => by
  obtain ⟨l, hl⟩ := prods_ne ps (fun q hq => h q (by simp [hq]))
  obtain ⟨n, hn⟩ := List.exists_mem_of_ne_nil _ (rng_ne (h p (by simp)))
  exact ⟨n :: l, by simp only [prods, List.mem_flatMap, List.mem_map]; exact ⟨n, hn, l, hl, rfl⟩⟩
end Go.Proofs.YtibenpfnlajakaaDoor
namespace Go.Proofs.YtibenpfnlajakaaDoor
open Go.Abs Go.Proofs.Tz
def sdPart (x : StandPart) : Bool := decide (1 ≤ x.Weight.Low) && decide (x.Weight.Low ≤ x.Weight.High) && decide (x.Weight.High ≤ 99) && rg x.Along (-60) 60 && rg x.High 0 60
theorem p38_loop1 (b : StandBook) (hl : b.Parts.length < 900) (s : Bool) : whileC (g38_34 b) 1000 (s, 0) = some (s && b.Parts.all sdPart) := by
 have h0 : ∀ i, g38_34 b (false, i) = some (.brk false) := fun i => by simp [g38_34, bsm]
 cases s with
 | false => rw [whileC, h0]; rfl
 | true =>
  have := while_all (f := g38_34 b) (p := sdPart) (xs := b.Parts) hl h0 (by simp [g38_34, bsm]) (fun i x hx => by
   have hi : i < b.Parts.length := (List.getElem?_eq_some_iff.1 hx).1
   simp only [g38_34, cond_true, bsm, ixL_nat, hx, g87, g43, sdPart, rg, cs, Bool.cond_false_right]
   have : decide ((i : Int) < (b.Parts.length : Int)) = true := by simp [hi]
   rw [this, wr_nat (by omega)]
   simp only [cond_true, Bool.and_assoc]) b.Parts.length 0 (by omega) 1000 (by omega)
  simpa using this
theorem p38_loop2 (b : StandBook) (hl : b.Trials.length < 900) (s : Bool) : whileC (g38_53 b) 1000 (s, 0) = some (s && b.Trials.all (okTrial b)) := by
 have h0 : ∀ i, g38_53 b (false, i) = some (.brk false) := fun i => by simp [g38_53, bsm]
 cases s with
 | false => rw [whileC, h0]; rfl
 | true =>
  have := while_all (f := g38_53 b) (p := okTrial b) (xs := b.Trials) hl h0 (by simp [g38_53, bsm]) (fun i x hx => by
   have hi : i < b.Trials.length := (List.getElem?_eq_some_iff.1 hx).1
   simp only [g38_53, cond_true, bsm, ixL_nat, hx, g43, okTrial, rg, cs]
   have : decide ((i : Int) < (b.Trials.length : Int)) = true := by simp [hi]
   rw [this, wr_nat (by omega)]
   simp only [cond_true]
   cases decide (1 ≤ x.Weight) && decide (x.Weight ≤ b.Limit) <;> rfl) b.Trials.length 0 (by omega) 1000 (by omega)
  simpa using this
theorem p38 (b : StandBook) : g38 b = some (okB b) := by
 unfold g38
 rw [p18, bsm]
 cases hok : okB b with
 | false =>
  simp only [cond_false, show decide ((20 : Int) = 0) = false from rfl, bsm]
  have e1 : whileC (g38_34 b) 1000 (false, 0) = some false := by rw [whileC]; simp [g38_34, bsm]
  have e2 : whileC (g38_53 b) 1000 (false, 0) = some false := by rw [whileC]; simp [g38_53, bsm]
  simp only [e1, e2, bsm]
 | true =>
  have h := hok
  simp only [okB, okHead, okTail, Bool.and_eq_true, rg_iff, decide_eq_true_eq] at h
  obtain ⟨⟨⟨⟨⟨⟨⟨hk, hf⟩, hb⟩, hr⟩, hl⟩, ⟨⟨⟨⟨ha, hh⟩, hle⟩, hli⟩, ht⟩⟩, hp⟩, htr⟩ := h
  have hrad : 0 ≤ b.Radius ∧ b.Radius ≤ 120 := by
   cases hd : decide (b.Kind = 1) <;> rw [hd] at hr
   ·simp only [cond_false, decide_eq_true_eq] at hr; omega
   ·simp only [cond_true, rg_iff] at hr; omega
  have q1 : (b.Parts.all sdPart) = true := by
   rw [List.all_eq_true]
   intro x hx
   have hv := (ok_of hok).vp x hx
   have h1 := hv.lo; have h2 := hv.le; have h3 := hv.hi; have h4 := hv.bd
   rw [List.all_eq_true] at hp
   have h5 := hp x hx
   simp only [okPart, Bool.and_eq_true, rg_iff, decide_eq_true_eq] at h5
   simp only [sdPart, Bool.and_eq_true, rg_iff, decide_eq_true_eq]
   omega
  simp only [cond_true, decide_true, bsm, show ∀ n a c, g43 n a c = some (rg n a c) from fun _ _ _ => rfl]
  rw [rg_iff.2 hk, rg_iff.2 hf, rg_iff.2 hb, rg_iff.2 hrad, rg_iff.2 hl, rg_iff.2 ha, rg_iff.2 hh, rg_iff.2 hle, rg_iff.2 hli]
  simp only [cond_true, bsm]
  rw [decide_eq_true ht, p38_loop1 b (by omega)]
  simp only [bsm]
  rw [p38_loop2 b (by omega), q1, htr]
  rfl
theorem p41 (n : Int) {many : Int} (h1 : 1 ≤ many) (h2 : many ≤ 1000000) : ∃ r, g41 n many = some r ∧ 0 ≤ r ∧ r < many := by
 have a1 := Int.tmod_lt_of_pos n (show 0 < many by omega)
 have a2 := Int.lt_tmod_of_pos n (show 0 < many by omega)
 unfold g41
 rw [decide_eq_false (by omega), cond_false, must_t (by simp; omega), bsm]
 by_cases h : n.tmod many < 0
 ·rw [decide_eq_true h, cond_true, wr_in (by omega) (by omega)]
  exact ⟨_, rfl, by omega, by omega⟩
 ·rw [decide_eq_false h, cond_false]
  exact ⟨_, rfl, by omega, by omega⟩
theorem er_cases {b : StandBook} (hok : okB b = true) : (er b true = 22 ∧ truths b = []) ∨ (er b true = 0 ∧ truths b ≠ []) := by
 unfold er
 rw [hok]
 cases ht : truths b with
 | nil => exact .inl ⟨rfl, rfl⟩
 | cons a l =>
  refine .inr ⟨?_, by simp⟩
  simp only [cond_true, List.length_cons]
  rw [decide_eq_false (by omega)]; rfl
end Go.Proofs.YtibenpfnlajakaaDoor
namespace Go.Proofs.YtibenpfnlajakaaDoor
open Go.Abs Go.Proofs.Tz
theorem truth_rng {b : StandBook} (h : Ok b) {a : Nat → Int} (ha : a ∈ truths b) : ∀ n, n ∈ wl b a → 1 ≤ n ∧ n ≤ 99 := by
 have h1 : wl b a ∈ prods b.Parts := by
  have : wl b a ∈ (prods b.Parts).filter (rightB b) := by rw [← truths_prods]; exact List.mem_map_of_mem ha
  exact (List.mem_filter.1 this).1
 exact (prods_mem b.Parts h.vp _ h1).2
end Go.Proofs.YtibenpfnlajakaaDoor
namespace Go.Proofs.YtibenpfnlajakaaDoor
open Go.Abs Go.Proofs.Tz
theorem right_nt {y : StandBook} (h : y.Trials = []) (ns : List Int) : rightB y ns = true := by unfold rightB; rw [h]; rfl
theorem tl_nt {y : StandBook} (h : y.Trials = []) : tl y = prods y.Parts := by
 unfold tl
 rw [truths_prods, List.filter_eq_self.2 (fun ns _ => right_nt h ns)]
theorem er_nt {y : StandBook} (hok : okB y = true) (h : y.Trials = []) : er y true = 0 := by
 rcases er_cases hok with ⟨_, ht⟩ | ⟨he, _⟩
 ·obtain ⟨l, hl⟩ := prods_ne y.Parts (ok_of hok).vp
  have := tl_nt h
  unfold tl at this
  rw [ht] at this
  rw [← this] at hl
  cases hl
 ·exact he
theorem least_none {y : StandBook} (hok : okB y = true) (he : er y true = 0) : (leastT y).2 = bif decide (leastL y (tl y) = 0) then 4 else 0 := by
 unfold leastT leastL safeB
 rw [he]
 simp only [ne_eq, not_true_eq_false, decide_false, cond_false]
 cases hf : firstI (fun w => !safeL y (tl y) w) y.Limit.toNat 1 with
 | none => rfl
 | some j =>
  have := (firstI_some hf).1
  simp only [Option.getD_some]
  rw [decide_eq_false (by omega)]; rfl
theorem okB_plain {b : StandBook} (hok : okB b = true) : okB (withT b []) = true := by
 simp only [okB, okHead, okTail, Bool.and_eq_true, decide_eq_true_eq] at hok ⊢
 obtain ⟨⟨⟨h1, ⟨h2, h3⟩⟩, hp⟩, htr⟩ := hok
 exact ⟨⟨⟨h1, ⟨h2, by simp [withT]⟩⟩, hp⟩, rfl⟩
theorem okB_widen {b : StandBook} (hok : okB b = true) {p : Int} (h0 : 0 ≤ p) (hf : b.Front + p ≤ 60) (hb : b.Back + p ≤ 60) : okB (widen (withT b []) p) = true := by
 have hok' := okB_plain hok
 simp only [okB, okHead, okTail, Bool.and_eq_true, decide_eq_true_eq, rg_iff] at hok' ⊢
 obtain ⟨⟨⟨⟨⟨⟨⟨hk, hf1⟩, hb1⟩, hr⟩, hlen⟩, h2⟩, hp⟩, htr⟩ := hok'
 have f1 := hf1.1
 have b1 := hb1.1
 unfold withT at f1 b1
 simp only at f1 b1
 exact ⟨⟨⟨⟨⟨⟨⟨hk, by unfold widen withT; simp only; omega⟩, by unfold widen withT; simp only; omega⟩, hr⟩, hlen⟩, h2⟩, hp⟩, htr⟩
theorem wider_mono {b : StandBook} (hf : 0 ≤ b.Front) (hb : 0 < b.Back) {n p : Int} (hn : 0 ≤ n) (hp : n ≤ p) {s : Int × Int × Int} (hs : 0 ≤ s.1) (h : 0 ≤ topL (widen b n) s) : 0 ≤ topL (widen b p) s := by
 have key : ∀ d F B x y : Int, 0 ≤ d → F ≤ B → 0 ≤ F * d + x → 0 ≤ B * d + x := fun d F B x y hd hFB h => by
  have := Int.mul_le_mul_of_nonneg_right hFB hd
  omega
 unfold topL widen at h ⊢
 simp only at h ⊢
 cases hk : decide (b.Kind = 0) with
 | true =>
  rw [hk] at h
  simp only [cond_true] at h ⊢
  have h1 : 0 ≤ (b.Back + n) * s.1 + s.2.1 := by omega
  have h2 : 0 ≤ (b.Front + n) * s.1 + -s.2.1 := by omega
  have k1 := key s.1 _ (b.Back + p) _ 0 hs (by omega) h1
  have k2 := key s.1 _ (b.Front + p) _ 0 hs (by omega) h2
  omega
 | false =>
  rw [hk] at h
  simp only [cond_false] at h ⊢
  have h1 : 0 ≤ (b.Back + n) * (b.Radius * s.1 - s.2.2) + b.Radius * s.2.1 := by omega
  have h2 : 0 ≤ (b.Front + n) * (b.Radius * s.1 - s.2.2) + -(b.Radius * s.2.1) := by omega
  have hd : 0 ≤ b.Radius * s.1 - s.2.2 := by
   by_cases hneg : b.Radius * s.1 - s.2.2 < 0
   ·have a1 : (b.Back + n + (b.Front + n)) * (b.Radius * s.1 - s.2.2) < 0 := Int.mul_neg_of_pos_of_neg (by omega) hneg
    rw [Int.add_mul] at a1
    omega
   ·omega
  have k1 := key _ _ (b.Back + p) _ 0 hd (by omega) h1
  have k2 := key _ _ (b.Front + p) _ 0 hd (by omega) h2
  omega
theorem wider_least {b : StandBook} (p : Int) : leastL (widen (withT b []) p) (tl (widen (withT b []) p)) = leastL (widen (withT b []) p) (tl (withT b [])) := by
 rw [tl_nt (y := widen (withT b []) p) rfl, tl_nt (y := withT b []) rfl]
 rfl
theorem wider_more {b : StandBook} (hok : okB b = true) {n p : Int} (hn : 0 ≤ n) (hp : n ≤ p) (h : widerOk (withT b []) n = true) : widerOk (withT b []) p = true := by
 have hokx := okB_plain hok
 have hx := ok_of hokx
 rw [widerOk_iff hokx] at h ⊢
 intro w h1 h2 a ha lean k1 k2
 have hf : 1 ≤ b.Front ∧ 1 ≤ b.Back := by
  simp only [okB, okHead, okTail, Bool.and_eq_true, rg_iff, decide_eq_true_eq, List.all_eq_true] at hok
  obtain ⟨⟨⟨⟨⟨⟨⟨hk, hf⟩, hb⟩, hr⟩, hl⟩, _⟩, hp⟩, htr⟩ := hok
  exact ⟨hf.1, hb.1⟩
 refine wider_mono (b := withT b []) (n := n) (by show 0 ≤ b.Front; omega) (by show 0 < b.Back; omega) hn hp ?_ (h w h1 h2 a ha lean k1 k2)
 have hpos := ld_pos (withT b []).Parts (wl (withT b []) a) (s0 (withT b []) z0 w lean) (fun m hm => by have := truth_rng hx ha m hm; omega)
 have e0 : (s0 (withT b []) z0 w lean).1 = 0 + w := rfl
 show 0 ≤ (ld (withT b []).Parts (wl (withT b []) a) (s0 (withT b []) z0 w lean)).1
 omega
theorem wider_is {x : StandBook} (he : er x true = 0) : widerT x = match firstI (widerOk x) 21 0 with | some j => (j, 0) | none => (0, 4) := by
 unfold widerT
 rw [he]
 rfl
theorem plain12 (b : StandBook) (n : Int) : g12 b n = some true := by
 unfold g12
 rw [p38, bsm]
 cases hok : okB b with
 | false => simp only [Bool.not_false, cond_true, stood_ok, bsm]
 | true =>
  obtain ⟨r, e1, e2, e3⟩ := p41 n (many := 20) (by omega) (by omega)
  have hokx := okB_plain hok
  have h := ok_of hok
  have hex := er_nt hokx rfl
  have hff : 1 ≤ b.Front ∧ b.Front ≤ 60 ∧ 1 ≤ b.Back ∧ b.Back ≤ 60 := by
   have hok2 := hok
   simp only [okB, okHead, okTail, Bool.and_eq_true, rg_iff, decide_eq_true_eq, List.all_eq_true] at hok2
   obtain ⟨⟨⟨⟨⟨⟨⟨hk, hf⟩, hb⟩, hr⟩, hl⟩, _⟩, hp⟩, htr⟩ := hok2
   exact ⟨hf.1, hf.2, hb.1, hb.2⟩
  simp only [Bool.not_true, cond_false, bsm, g48, p33, e1]
  rw [show (StandBook.mk b.Kind b.Front b.Back b.Radius b.Parts b.Along b.High b.Lean_ b.Limit []) = withT b [] from rfl]
  -- one look
  have look1 : ∀ (e i p : Int), -1 ≤ p → p ≤ 60 → (e = 0 → i ≠ 1 → widerOk (withT b []) p = true) → (i = 1 → 0 ≤ p → widerOk (withT b []) p = false) → g12_23 b (withT b []) e i p () = some (.next ()) := fun e i p hp0 hp1 ht hf => by
   unfold g12_23
   have w1 : wr (b.Front + p) = b.Front + p := wr_in (by omega) (by omega)
   have w2 : wr (b.Back + p) = b.Back + p := wr_in (by omega) (by omega)
   rw [w1, w2]
   cases hc : ((decide (p < 0) || (decide (e ≠ 0) && decide (i ≠ 1))) || decide (60 < b.Front + p)) || decide (60 < b.Back + p) with
   | true => rfl
   | false =>
    simp only [Bool.or_eq_false_iff, Bool.and_eq_false_iff, decide_eq_false_iff_not, ne_eq, Classical.not_not] at hc
    obtain ⟨⟨⟨c1, c2⟩, c3⟩, c4⟩ := hc
    rw [cond_false, p27, show (StandBook.mk (withT b []).Kind (b.Front + p) (b.Back + p) (withT b []).Radius (withT b []).Parts (withT b []).Along (withT b []).High (withT b []).Lean_ (withT b []).Limit (withT b []).Trials) = widen (withT b []) p from rfl, bsm]
    have hoky := okB_widen hok (p := p) (by omega) (by omega) (by omega)
    have hly := least_none hoky (er_nt hoky rfl)
    rw [wider_least, show decide (leastL (widen (withT b []) p) (tl (withT b [])) = 0) = widerOk (withT b []) p from rfl] at hly
    have hval : widerOk (withT b []) p = decide (i ≠ 1) := by
     by_cases hi : i = 1
     ·rw [hf hi (by omega), hi]; rfl
     ·rw [ht (by rcases c2 with c2 | c2; exact c2; exact absurd c2 hi) hi]; simp [hi]
    rw [hval] at hly
    generalize leastT (widen (withT b []) p) = ly at hly
    obtain ⟨ly1, ly2⟩ := ly
    simp only at hly
    subst hly
    by_cases hi : i = 1
    ·simp [hi, bsm]
    ·simp [hi, bsm]
  rw [wider_is hex]
  cases hf : firstI (widerOk (withT b [])) 21 0 with
  | none =>
   have hno := firstI_none.1 hf
   have w1 : wr (21 - 1 : Int) = 20 := rfl
   have w2 : wr (21 + r) = 21 + r := wr_in (by omega) (by omega)
   have f0 := look1 4 0 21 (by omega) (by omega) (fun h => by omega) (fun h => by omega)
   have f1 := look1 4 1 20 (by omega) (by omega) (fun h => by omega) (fun _ _ => hno 20 (by omega) (by omega))
   have f2 := look1 4 2 (21 + r) (by omega) (by omega) (fun h => by omega) (fun h => by omega)
   simp only [bsm, show decide ((4 : Int) ≠ 0) = true from rfl, show decide ((4 : Int) ≠ 4) = false from rfl, show decide ((0 : Int) ≠ 0) = false from rfl, show decide ((4 : Int) = 0) = false from rfl, cond_true, cond_false, Bool.or_self, Bool.and_false, w1, w2, eachC, f0, bindC, Int.zero_add, f1, show (1 : Int) + 1 = 2 from rfl, f2, stood_ok]
  | some j =>
   obtain ⟨j1, j2, j3, j4⟩ := firstI_some hf
   have w1 : wr (j - 1) = j - 1 := wr_in (by omega) (by omega)
   have w2 : wr (j + r) = j + r := wr_in (by omega) (by omega)
   have f0 := look1 0 0 j (by omega) (by omega) (fun _ _ => j3) (fun h => by omega)
   have f1 := look1 0 1 (j - 1) (by omega) (by omega) (fun _ h => by omega) (fun _ h => j4 (j - 1) h (by omega))
   have f2 := look1 0 2 (j + r) (by omega) (by omega) (fun _ _ => wider_more hok j1 (by omega) j3) (fun h => by omega)
   have hg : g43 j 0 20 = some true := by
    show some (rg j 0 20) = some true
    rw [rg_iff.2 ⟨j1, by omega⟩]
   simp only [bsm, show decide ((0 : Int) ≠ 0) = false from rfl, show decide ((0 : Int) = 0) = true from rfl, hg, Bool.not_true, cond_true, cond_false, Bool.false_and, w1, w2, eachC, f0, bindC, Int.zero_add, f1, show (1 : Int) + 1 = 2 from rfl, f2, stood_ok]
   rfl
end Go.Proofs.YtibenpfnlajakaaDoor
