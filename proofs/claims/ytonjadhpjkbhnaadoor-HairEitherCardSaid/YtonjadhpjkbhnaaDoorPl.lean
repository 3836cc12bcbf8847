/- Plain laws. Conditions: none. -/
import Derived.Test.YtonjadhpjkbhnaaDoorAr
set_option linter.unusedVariables false
set_option linter.unusedSimpArgs false
namespace Go.Proofs.YtonjadhpjkbhnaaDoor
open Go.Abs Go.Proofs.Th
theorem matched_ok : g25 = some true := by kernel_rfl
end Go.Proofs.YtonjadhpjkbhnaaDoor
namespace Go.Proofs.YtonjadhpjkbhnaaDoor
open Go.Abs Go.Proofs.Th
theorem cs {α : Type} (c : Bool) (a b : α) : (bif c then some a else some b) = some (bif c then a else b) := by cases c <;> rfl
theorem bsm {α β : Type} (a : α) (f : α → Option β) : (some a).bind f = f a := rfl
theorem eachS_all {α : Type} {f : Int → α → Bool → Option Bool} {p : α → Bool} (h : ∀ i x s, f i x s = some (s && p x)) : ∀ (xs : List α) (i : Int) (s : Bool), eachS f xs i s = some (s && xs.all p)
 | [], i, s => by simp [eachS]
 | x :: xs, i, s => by rw [eachS, h, bsm, eachS_all h xs]; simp [Bool.and_assoc]
def rg (n a b : Int) : Bool := decide (a ≤ n) && decide (n ≤ b)
theorem while_all {α : Type} {f : Bool × Int → Option (Ctl (Bool × Int) Bool)} {p : α → Bool} {xs : List α} (hl : xs.length < 900)
  (h0 : ∀ i, f (false, i) = some (.brk false)) (h1 : f (true, (xs.length : Int)) = some (.brk true))
  (h : ∀ (i : Nat) x, xs[i]? = some x → f (true, (i : Int)) = some (.next (p x, ((i + 1 : Nat) : Int)))) :
  ∀ (n i : Nat), i + n = xs.length → ∀ k, n + 2 ≤ k → whileC f k (true, (i : Int)) = some ((xs.drop i).all p)
 | 0, i, hi, k, hk => by
  obtain ⟨k, rfl⟩ : ∃ k', k = k' + 1 := ⟨k - 1, by omega⟩
  have : i = xs.length := by omega
  subst this
  rw [whileC, h1]; simp
 | n + 1, i, hi, k, hk => by
  obtain ⟨k, rfl⟩ : ∃ k', k = k' + 1 := ⟨k - 1, by omega⟩
  have hlt : i < xs.length := by omega
  rw [whileC, h i _ (List.getElem?_eq_getElem hlt), bsm, List.drop_eq_getElem_cons hlt, List.all_cons]
  cases hp : p xs[i] with
  | false =>
   obtain ⟨k, rfl⟩ : ∃ k', k = k' + 1 := ⟨k - 1, by omega⟩
   simp only; rw [whileC, h0]; rfl
  | true => simp only; rw [while_all hl h0 h1 h n (i + 1) (by omega) k (by omega)]; simp
theorem wr_nat {i : Nat} (h : i < 1000) : wr ((i : Int) + 1) = ((i + 1 : Nat) : Int) := by rw [wr_in (by omega) (by omega)]; simp
theorem ixL_nat {α : Type} (xs : List α) (i : Nat) : ixL xs (i : Int) = xs[i]? := by
 unfold ixL
 have : decide (0 ≤ (i : Int)) = true := by simp
 rw [this]; simp
def Bd (a x : Int) : Prop := -a ≤ x ∧ x ≤ a
theorem Bd.mul {a b x y : Int} (hx : Bd a x) (hy : Bd b y) : Bd (a * b) (x * y) := by
 have h1 : x.natAbs ≤ a.natAbs := by obtain ⟨h, k⟩ := hx; omega
 have h2 : y.natAbs ≤ b.natAbs := by obtain ⟨h, k⟩ := hy; omega
 have h3 := Nat.mul_le_mul h1 h2
 rw [← Int.natAbs_mul, ← Int.natAbs_mul] at h3
 have ha : 0 ≤ a := by obtain ⟨h, k⟩ := hx; omega
 have hb : 0 ≤ b := by obtain ⟨h, k⟩ := hy; omega
 have := Int.mul_nonneg ha hb
 constructor <;> omega
theorem Bd.add {a b x y : Int} (hx : Bd a x) (hy : Bd b y) : Bd (a + b) (x + y) := by obtain ⟨h, k⟩ := hx; obtain ⟨h', k'⟩ := hy; constructor <;> omega
theorem Bd.sub {a b x y : Int} (hx : Bd a x) (hy : Bd b y) : Bd (a + b) (x - y) := by obtain ⟨h, k⟩ := hx; obtain ⟨h', k'⟩ := hy; constructor <;> omega
theorem Bd.mono {a b x : Int} (hx : Bd a x) (h : a ≤ b) : Bd b x := by obtain ⟨h, k⟩ := hx; constructor <;> omega
theorem rg_iff {n a c : Int} : rg n a c = true ↔ a ≤ n ∧ n ≤ c := by simp [rg]
theorem must_t {x : Bool} (h : x = true) : must x = some () := by subst h; rfl
def firstI (p : Int → Bool) : Nat → Int → Option Int
 | 0, _ => none
 | n + 1, i => bif p i then some i else firstI p n (i + 1)
theorem firstI_none {p : Int → Bool} : ∀ {n : Nat} {i : Int}, firstI p n i = none ↔ ∀ j, i ≤ j → j < i + n → p j = false
 | 0, i => ⟨fun _ j h1 h2 => by omega, fun _ => rfl⟩
 | n + 1, i => by
  rw [firstI]
  cases h0 : p i with
  | true => exact ⟨fun h => by (cases h), fun h => by have := h i (by omega) (by omega); rw [h0] at this; cases this⟩
  | false =>
   rw [cond_false, firstI_none]
   constructor
   ·intro h j h1 h2
    by_cases e : j = i
    ·rw [e]; exact h0
    ·exact h j (by omega) (by omega)
   ·intro h j h1 h2; exact h j (by omega) (by omega)
theorem firstI_some {p : Int → Bool} : ∀ {n : Nat} {i j : Int}, firstI p n i = some j → i ≤ j ∧ j < i + n ∧ p j = true ∧ ∀ k, i ≤ k → k < j → p k = false
 | 0, i, j, h => by cases h
 | n + 1, i, j, h => by
  rw [firstI] at h
  cases h0 : p i with
  | true => rw [h0] at h; cases h; exact ⟨by omega, by omega, h0, fun k h1 h2 => by omega⟩
  | false =>
   rw [h0, cond_false] at h
   obtain ⟨h1, h2, h3, h4⟩ := firstI_some h
   refine ⟨by omega, by omega, h3, fun k hk hk' => ?_⟩
   by_cases e : k = i
   ·rw [e]; exact h0
   ·exact h4 k (by omega) hk'
theorem forC_first {S R : Type} {f : Int → S → Option (Ctl S R)} (I : S → Prop) (p : Int → Bool) (r : Int → R) : ∀ (n : Nat) (i : Int) (s : S), I s →
  (∀ j s, i ≤ j → j < i + n → I s → ∃ s', I s' ∧ f j s = some (bif p j then .brk (r j) else .next s')) →
  ∃ s', I s' ∧ forC f n i s = some (match firstI p n i with | some j => .brk (r j) | none => .next s')
 | 0, i, s, hs, h => ⟨s, hs, rfl⟩
 | n + 1, i, s, hs, h => by
  obtain ⟨s1, h1, e1⟩ := h i s (by omega) (by omega) hs
  rw [forC, e1, bsm, firstI]
  cases p i with
  | true => exact ⟨s1, h1, rfl⟩
  | false => exact forC_first I p r n (i + 1) s1 h1 (fun j s k1 k2 => h j s (by omega) (by omega))
theorem forC_firstU {R : Type} {f : Int → Unit → Option (Ctl Unit R)} (p : Int → Bool) (r : Int → R) (n : Nat) (i : Int) (h : ∀ j, i ≤ j → j < i + n → f j () = some (bif p j then .brk (r j) else .next ())) :
  forC f n i () = some (match firstI p n i with | some j => .brk (r j) | none => .next ()) := by
 obtain ⟨s, _, e⟩ := forC_first (fun _ => True) p r n i () trivial (fun j s h1 h2 _ => ⟨(), trivial, h j h1 h2⟩)
 exact e
theorem roomB_ok {n b : Nat} (h : n * b ≤ 140737488355328) : roomB n b = true := Nat.ble_eq_true_of_le h
theorem appL_ok {α : Type} {sz : Nat} {l m : List α} (h : (l ++ m).length * sz ≤ 140737488355328) : appL sz l m = some (l ++ m) := by
 unfold appL
 rw [roomB_ok h]; rfl
theorem forS_inv {S : Type} {f : Int → S → Option S} (I : Int → S → Prop) : ∀ (n : Nat) (i : Int) (s : S), I i s → (∀ j s, i ≤ j → j < i + n → I j s → ∃ s', f j s = some s' ∧ I (j + 1) s') → ∃ s', forS f n i s = some s' ∧ I (i + n) s'
 | 0, i, s, hs, h => ⟨s, rfl, by simpa using hs⟩
 | n + 1, i, s, hs, h => by
  obtain ⟨s1, e1, h1⟩ := h i s (by omega) (by omega) hs
  obtain ⟨s2, e2, h2⟩ := forS_inv I n (i + 1) s1 h1 (fun j s k1 k2 => h j s (by omega) (by omega))
  refine ⟨s2, by rw [forS, e1, bsm, e2], ?_⟩
  rw [show i + ((n + 1 : Nat) : Int) = i + 1 + (n : Int) by omega]
  exact h2
theorem mfd_append {K W : Type} (q : K → K → Bool) (k k' : K) (w : W) : ∀ (m : List (K × W)) (i : Nat), (mfd q k (m ++ [(k', w)]) i).map (·.2) = match (mfd q k m i).map (·.2) with
  | some v => some v
  | none => bif q k k' then some w else none
 | [], i => by
  simp only [List.nil_append, mfd]
  cases q k k' <;> rfl
 | p :: m, i => by
  simp only [List.cons_append, mfd]
  cases q k p.1 with
  | true => rfl
  | false => simp only [cond_false]; exact mfd_append q k k' w m (i + 1)
theorem mget_append {K W : Type} (q : K → K → Bool) (m : List (K × W)) (k k' : K) (w : W) : mget q (m ++ [(k', w)]) k = match mget q m k with
  | some v => some v
  | none => bif q k k' then some w else none := mfd_append q k k' w m 0
end Go.Proofs.YtonjadhpjkbhnaaDoor
namespace Go.Proofs.YtonjadhpjkbhnaaDoor
open Go.Abs Go.Proofs.Th
def okSpan (s : Span) (a c w : Int) : Bool := decide (a ≤ s.Low) && decide (s.Low ≤ s.High) && decide (s.High ≤ c) && decide (wr (s.High - s.Low) ≤ w)
def okHank (x : HairHank) : Bool := okSpan x.Weight 1 60 4 && okSpan x.Shade 0 20 2
def okHorse (x : HairHorse) : Bool := rg x.Mane 1 30 && rg x.Tail 1 30 && rg x.Shade 0 25
def okH (b : HairBook) : Bool := decide ((b.Hanks.length : Int) ≤ 4) && decide ((b.Horses.length : Int) ≤ 3) && rg b.Dark 0 4 && rg b.Near 0 3 && rg b.Match 0 3 && b.Hanks.all okHank && b.Horses.all okHorse
theorem p57 (n a c : Int) : g57 n a c = some (rg n a c) := rfl
theorem p63 (s : Span) (a c w : Int) : g63 s a c w = some (okSpan s a c w) := rfl
theorem p17_15 (i : Int) (x : HairHank) (s : Bool) : g17_15 i x s = some (s && okHank x) := by
 simp only [g17_15, p63, bsm, cs, okHank, Bool.cond_false_right, Bool.and_assoc]
theorem p17_31 (i : Int) (x : HairHorse) (s : Bool) : g17_31 i x s = some (s && okHorse x) := by
 simp only [g17_31, p57, bsm, cs, okHorse, Bool.cond_false_right, Bool.and_assoc]
theorem p17 (b : HairBook) : g17 b = some (bif okH b then 0 else 60) := by
 unfold g17
 simp only [p57, bsm, cs, Bool.cond_false_right, eachS_all p17_15, eachS_all p17_31]
 have : ∀ x : Bool, (bif !x then (60 : Int) else 0) = bif x then 0 else 60 := by intro x; cases x <;> rfl
 rw [this]
 simp only [okH, Bool.and_assoc]
structure HankOk (x : HairHank) : Prop where
 w : 1 ≤ x.Weight.Low ∧ x.Weight.Low ≤ x.Weight.High ∧ x.Weight.High ≤ 60
 s : 0 ≤ x.Shade.Low ∧ x.Shade.Low ≤ x.Shade.High ∧ x.Shade.High ≤ 20
structure OkH (b : HairBook) : Prop where
 l4 : b.Hanks.length ≤ 5
 l3 : b.Horses.length ≤ 3
 dark : 0 ≤ b.Dark ∧ b.Dark ≤ 4
 near : 0 ≤ b.Near ∧ b.Near ≤ 3
 mat : 0 ≤ b.Match ∧ b.Match ≤ 3
 hanks : ∀ x, x ∈ b.Hanks → HankOk x
 horses : ∀ x, x ∈ b.Horses → (1 ≤ x.Mane ∧ x.Mane ≤ 30) ∧ (1 ≤ x.Tail ∧ x.Tail ≤ 30) ∧ 0 ≤ x.Shade ∧ x.Shade ≤ 25
theorem okH_of {b : HairBook} (h : okH b = true) : OkH b := by
 simp only [okH, Bool.and_eq_true, rg_iff, decide_eq_true_eq, List.all_eq_true] at h
 obtain ⟨⟨⟨⟨⟨⟨h1, h2⟩, h3⟩, h4⟩, h5⟩, h6⟩, h7⟩ := h
 refine ⟨by omega, by omega, h3, h4, h5, fun x hx => ?_, fun x hx => ?_⟩
 ·have := h6 x hx
  simp only [okHank, okSpan, Bool.and_eq_true, decide_eq_true_eq] at this
  exact ⟨by omega, by omega⟩
 ·have := h7 x hx
  simp only [okHorse, Bool.and_eq_true, rg_iff] at this
  omega
theorem okH_l4 {b : HairBook} (h : okH b = true) : b.Hanks.length ≤ 4 := by
 simp only [okH, Bool.and_eq_true, decide_eq_true_eq] at h
 omega
theorem q84_iff (x y : Hair_dye) : q84 x y = true ↔ x = y := by
 cases x; cases y
 simp [q84]
def shOf (b : HairBook) (h n : Int) : Span := match b.Hanks[h.toNat]? with
 | some x => ⟨x.Shade.Low + n, x.Shade.High + n⟩
 | none => ⟨0, 0⟩
def ShK (b : HairBook) (k j : Int) (m : List (Hair_dye × Span)) : Prop := ∀ h n, mget q84 m ⟨h, n⟩ = bif (decide (0 ≤ h) && decide (h < k) && decide (0 ≤ n) && decide (n ≤ b.Dark)) || (decide (h = k) && decide (0 ≤ n) && decide (n < j)) then some (shOf b h n) else none
theorem eachS_inv {α S : Type} {f : Int → α → S → Option S} (I : Nat → S → Prop) : ∀ (xs : List α) (i : Nat) (s : S), I i s → (∀ j x s, i ≤ j → xs[j - i]? = some x → I j s → ∃ s', f (j : Int) x s = some s' ∧ I (j + 1) s') → ∃ s', eachS f xs (i : Int) s = some s' ∧ I (i + xs.length) s'
 | [], i, s, hs, h => ⟨s, rfl, by simpa using hs⟩
 | x :: xs, i, s, hs, h => by
  obtain ⟨s1, e1, h1⟩ := h i x s (Nat.le_refl _) (by simp) hs
  obtain ⟨s2, e2, h2⟩ := eachS_inv I xs (i + 1) s1 h1 (fun j y s hj hy hI => h j y s (by omega) (by
   have : j - i = (j - (i + 1)) + 1 := by omega
   rw [this, List.getElem?_cons_succ]; exact hy) hI)
  refine ⟨s2, ?_, ?_⟩
  ·rw [eachS, e1, bsm, show (i : Int) + 1 = ((i + 1 : Nat) : Int) by omega, e2]
  ·rw [List.length_cons, show i + (xs.length + 1) = i + 1 + xs.length by omega]; exact h2
theorem p80_8 {b : HairBook} (ok : OkH b) {k : Nat} {x : HairHank} (hx : b.Hanks[k]? = some x) {j : Int} (h0 : 0 ≤ j) (h1 : j ≤ b.Dark) {m : List (Hair_dye × Span)} (hm : ShK b k j m) : ∃ m', g80_8 (k : Int) x j m = some m' ∧ ShK b k (j + 1) m' := by
 have hd := ok.dark
 have hs := (ok.hanks x (List.mem_of_getElem? hx)).s
 have hnone : mget q84 m ⟨(k : Int), j⟩ = none := by
  rw [hm]
  have : ((decide (0 ≤ (k : Int)) && decide ((k : Int) < (k : Int)) && decide (0 ≤ j) && decide (j ≤ b.Dark)) || (decide ((k : Int) = (k : Int)) && decide (0 ≤ j) && decide (j < j))) = false := by simp
  rw [this]; rfl
 have hsh : shOf b (k : Int) j = ⟨x.Shade.Low + j, x.Shade.High + j⟩ := by
  unfold shOf
  rw [Int.toNat_natCast, hx]
 refine ⟨m ++ [(⟨(k : Int), j⟩, ⟨x.Shade.Low + j, x.Shade.High + j⟩)], ?_, fun h n => ?_⟩
 ·unfold g80_8 mput
  rw [hnone, wr_in (by omega) (by omega), wr_in (by omega) (by omega)]
  rfl
 ·rw [mget_append]
  by_cases he : h = (k : Int) ∧ n = j
  ·obtain ⟨rfl, rfl⟩ := he
   rw [hnone]
   have hq : q84 ⟨(k : Int), n⟩ ⟨(k : Int), n⟩ = true := (q84_iff _ _).2 rfl
   have ht : ((decide (0 ≤ (k : Int)) && decide ((k : Int) < (k : Int)) && decide (0 ≤ n) && decide (n ≤ b.Dark)) || (decide ((k : Int) = (k : Int)) && decide (0 ≤ n) && decide (n < n + 1))) = true := by
    simp; omega
   rw [ht, hsh]
   simp only [hq, cond_true]
  ·have hq : q84 ⟨h, n⟩ ⟨(k : Int), j⟩ = false := by
    cases hc : q84 ⟨h, n⟩ ⟨(k : Int), j⟩ with
    | false => rfl
    | true =>
     have := (q84_iff _ _).1 hc
     injection this with e1 e2
     exact absurd ⟨e1, e2⟩ he
   rw [hm, hq]
   have : (decide (h = (k : Int)) && decide (0 ≤ n) && decide (n < j)) = (decide (h = (k : Int)) && decide (0 ≤ n) && decide (n < j + 1)) := by
    rw [Bool.eq_iff_iff]
    simp only [Bool.and_eq_true, decide_eq_true_eq]
    constructor
    ·rintro ⟨⟨a1, a2⟩, a3⟩; exact ⟨⟨a1, a2⟩, by omega⟩
    ·rintro ⟨⟨a1, a2⟩, a3⟩
     refine ⟨⟨a1, a2⟩, ?_⟩
     by_cases e : n = j
     ·exact absurd ⟨a1, e⟩ he
     ·omega
   rw [this]
   cases (decide (0 ≤ h) && decide (h < (k : Int)) && decide (0 ≤ n) && decide (n ≤ b.Dark)) || (decide (h = (k : Int)) && decide (0 ≤ n) && decide (n < j + 1)) <;> rfl
def ShOk (b : HairBook) (m : List (Hair_dye × Span)) : Prop := ∀ (h n : Int), 0 ≤ h → h < b.Hanks.length → 0 ≤ n → n ≤ b.Dark → mget q84 m ⟨h, n⟩ = some (shOf b h n)
theorem p80 {b : HairBook} (ok : OkH b) : ∃ m, g80 b = some (b, m) ∧ ShOk b m := by
 have hd := ok.dark
 have e : wr (b.Dark + 1) = b.Dark + 1 := wr_in (by omega) (by omega)
 obtain ⟨m, em, hm⟩ := eachS_inv (f := g80_3 b) (fun k m => ShK b (k : Int) 0 m) b.Hanks 0 [] (fun h n => by
  have : ((decide (0 ≤ h) && decide (h < ((0 : Nat) : Int)) && decide (0 ≤ n) && decide (n ≤ b.Dark)) || (decide (h = ((0 : Nat) : Int)) && decide (0 ≤ n) && decide (n < 0))) = false := by
   rw [Bool.eq_false_iff]
   intro hc
   simp only [Bool.or_eq_true, Bool.and_eq_true, decide_eq_true_eq] at hc
   omega
  rw [this]; rfl) (fun k x m hk hx hm => by
  rw [Nat.sub_zero] at hx
  obtain ⟨m', e', h'⟩ := forS_inv (f := g80_8 (k : Int) x) (fun j m => ShK b (k : Int) j m) (b.Dark + 1 - 0).toNat 0 m hm (fun j s j1 j2 hs => p80_8 ok hx j1 (by omega) hs)
  refine ⟨m', by unfold g80_3; rw [e, e', bsm], fun h n => ?_⟩
  rw [h']
  congr 1
  rw [Bool.eq_iff_iff]
  simp only [Bool.or_eq_true, Bool.and_eq_true, decide_eq_true_eq]
  omega)
 refine ⟨m, ?_, fun h n h1 h2 h3 h4 => ?_⟩
 ·unfold g80
  rw [show ((0 : Nat) : Int) = 0 from rfl] at em
  rw [em, bsm]
 ·rw [hm]
  have : ((decide (0 ≤ h) && decide (h < ((0 + b.Hanks.length : Nat) : Int)) && decide (0 ≤ n) && decide (n ≤ b.Dark)) || (decide (h = ((0 + b.Hanks.length : Nat) : Int)) && decide (0 ≤ n) && decide (n < 0))) = true := by
   simp only [Bool.or_eq_true, Bool.and_eq_true, decide_eq_true_eq]
   omega
  rw [this]; rfl
def nearB (b : HairBook) (want : Int) (s : Span) : Bool := decide (s.High - want ≤ b.Near) && decide (want - s.Low ≤ b.Near)
def mB (b : HairBook) (want mane tail m t : Int) : Bool := nearB b want (shOf b mane m) && nearB b want (shOf b tail t) &&
 bif decide (mane = tail) then decide (-b.Match ≤ m - t) && decide (m - t ≤ b.Match) else decide ((shOf b mane m).High - (shOf b tail t).Low ≤ b.Match) && decide ((shOf b tail t).High - (shOf b mane m).Low ≤ b.Match)
theorem sh_bd {b : HairBook} (ok : OkH b) {h n : Int} (h1 : 0 ≤ h) (h2 : h < b.Hanks.length) (h3 : 0 ≤ n) (h4 : n ≤ b.Dark) : 0 ≤ (shOf b h n).Low ∧ (shOf b h n).Low ≤ (shOf b h n).High ∧ (shOf b h n).High ≤ 24 := by
 have hd := ok.dark
 have hlt : h.toNat < b.Hanks.length := by omega
 have hs := (ok.hanks _ (List.getElem_mem hlt)).s
 unfold shOf
 rw [List.getElem?_eq_getElem hlt]
 simp only
 omega
theorem p100 {b : HairBook} (ok : OkH b) {mf : List (Hair_dye × Span)} (hmf : ShOk b mf) {horse : Int} {p : HairHorse} (hp : ixL b.Horses horse = some p) (hw : 0 ≤ p.Shade ∧ p.Shade ≤ 25) {mane tail m t : Int} (a1 : 0 ≤ mane) (a2 : mane < b.Hanks.length) (b1 : 0 ≤ tail) (b2 : tail < b.Hanks.length)
  (m1 : 0 ≤ m) (m2 : m ≤ b.Dark) (t1 : 0 ≤ t) (t2 : t ≤ b.Dark) : g100 b mf horse ⟨mane, m⟩ ⟨tail, t⟩ = some (mB b p.Shade mane tail m t) := by
 have hd := ok.dark
 have hn := ok.near
 have hma := ok.mat
 have hs := sh_bd ok a1 a2 m1 m2
 have ht := sh_bd ok b1 b2 t1 t2
 unfold g100
 rw [hp, bsm, hmf mane m a1 a2 m1 m2, hmf tail t b1 b2 t1 t2]
 simp only [Option.getD_some]
 generalize hS : shOf b mane m = s at hs
 generalize hT : shOf b tail t = u at ht
 have g3 : ∀ a x y z, g113 a [x, y, z] = some (max (max (max a x) y) z) := fun _ _ _ _ => rfl
 have g1 : ∀ a x, g113 a [x] = some (max a x) := fun _ _ => rfl
 rw [wr_in (show -9223372036854775808 ≤ s.High - p.Shade by omega) (by omega), wr_in (show -9223372036854775808 ≤ p.Shade - s.Low by omega) (by omega), wr_in (show -9223372036854775808 ≤ u.High - p.Shade by omega) (by omega), wr_in (show -9223372036854775808 ≤ p.Shade - u.Low by omega) (by omega), g3, bsm,
  wr_in (show -9223372036854775808 ≤ m - t by omega) (by omega), wr_in (show -9223372036854775808 ≤ -b.Match by omega) (by omega), wr_in (show -9223372036854775808 ≤ s.High - u.Low by omega) (by omega), wr_in (show -9223372036854775808 ≤ u.High - s.Low by omega) (by omega), g1, p57]
 simp only [bsm, cs]
 unfold mB nearB
 rw [hS, hT]
 by_cases hnear : b.Near < max (max (max (s.High - p.Shade) (p.Shade - s.Low)) (u.High - p.Shade)) (p.Shade - u.Low)
 ·rw [decide_eq_true hnear, cond_true]
  have : (decide (s.High - p.Shade ≤ b.Near) && decide (p.Shade - s.Low ≤ b.Near) && (decide (u.High - p.Shade ≤ b.Near) && decide (p.Shade - u.Low ≤ b.Near))) = false := by
   rw [Bool.eq_false_iff]
   intro hc
   simp only [Bool.and_eq_true, decide_eq_true_eq] at hc
   omega
  rw [this]; rfl
 ·rw [decide_eq_false hnear, cond_false]
  have : (decide (s.High - p.Shade ≤ b.Near) && decide (p.Shade - s.Low ≤ b.Near) && (decide (u.High - p.Shade ≤ b.Near) && decide (p.Shade - u.Low ≤ b.Near))) = true := by
   simp only [Bool.and_eq_true, decide_eq_true_eq]
   omega
  rw [this, Bool.true_and]
  by_cases he : mane = tail
  ·rw [decide_eq_true he]
   simp only [cond_true]
   by_cases hmt : m = t
   ·subst he; subst hmt
    have e1 : (false != ((mane == mane) && ((m == m) && true))) = true := by simp
    have e2 : (decide (-b.Match ≤ m - m) && decide (m - m ≤ b.Match)) = true := by
     simp only [Bool.and_eq_true, decide_eq_true_eq]; omega
    rw [e1, e2]; rfl
   ·have e1 : (false != ((mane == tail) && ((m == t) && true))) = false := by
     have : (m == t) = false := by simpa using hmt
     rw [this]; simp
    rw [e1]; rfl
  ·rw [decide_eq_false he]
   simp only [cond_false]
   congr 1
   rw [Bool.eq_iff_iff]
   simp only [Bool.and_eq_true, decide_eq_true_eq]
   omega
def dyesF (b : HairBook) (want mane tail : Int) : Option (Int × Int) := (firstI (fun m => (firstI (fun t => mB b want mane tail m t) (b.Dark + 1).toNat 0).isSome) (b.Dark + 1).toNat 0).map fun m => (m, (firstI (fun t => mB b want mane tail m t) (b.Dark + 1).toNat 0).getD 0)
theorem p59 {b : HairBook} (ok : OkH b) {mf : List (Hair_dye × Span)} (hmf : ShOk b mf) {horse : Int} {p : HairHorse} (hp : ixL b.Horses horse = some p) (hw : 0 ≤ p.Shade ∧ p.Shade ≤ 25) {mane tail : Int} (a1 : 0 ≤ mane) (a2 : mane < b.Hanks.length) (b1 : 0 ≤ tail) (b2 : tail < b.Hanks.length) :
  g59 b mf horse mane tail = some (match dyesF b p.Shade mane tail with | some x => (⟨mane, x.1⟩, ⟨tail, x.2⟩, true) | none => (⟨0, 0⟩, ⟨0, 0⟩, false)) := by
 have hd := ok.dark
 have e : wr (b.Dark + 1) = b.Dark + 1 := wr_in (by omega) (by omega)
 unfold g59
 rw [e, Int.sub_zero]
 have := forC_firstU (f := g59_2 b mf horse mane tail) (fun m => (firstI (fun t => mB b p.Shade mane tail m t) (b.Dark + 1).toNat 0).isSome) (fun m => ((⟨mane, m⟩ : Hair_dye), (⟨tail, (firstI (fun t => mB b p.Shade mane tail m t) (b.Dark + 1).toNat 0).getD 0⟩ : Hair_dye), true)) (b.Dark + 1).toNat 0 (fun m m1 m2 => by
  have := forC_firstU (f := g59_6 b mf horse mane tail m) (fun t => mB b p.Shade mane tail m t) (fun t => .brk ((⟨mane, m⟩ : Hair_dye), (⟨tail, t⟩ : Hair_dye), true)) (b.Dark + 1).toNat 0 (fun t t1 t2 => by
   unfold g59_6
   rw [p100 ok hmf hp hw a1 a2 b1 b2 m1 (by omega) t1 (by omega), bsm, cs])
  unfold g59_2
  rw [e, Int.sub_zero, this]
  cases firstI (fun t => mB b p.Shade mane tail m t) (b.Dark + 1).toNat 0 <;> rfl)
 rw [this]
 unfold dyesF
 cases firstI (fun m => (firstI (fun t => mB b p.Shade mane tail m t) (b.Dark + 1).toNat 0).isSome) (b.Dark + 1).toNat 0 <;> rfl
def dyesT (b : HairBook) (horse mane tail : Int) : Int × Int × Int :=
 bif okH b then (bif rg horse 0 ((b.Horses.length : Int) - 1) && rg mane 0 ((b.Hanks.length : Int) - 1) && rg tail 0 ((b.Hanks.length : Int) - 1) then
  (match b.Horses[horse.toNat]? with | some p => (match dyesF b p.Shade mane tail with | some x => (x.1, x.2, 0) | none => (0, 0, 4)) | none => (0, 0, 0)) else (0, 0, 61)) else (0, 0, 60)
theorem p15 (b : HairBook) (horse mane tail : Int) : g15 b horse mane tail = some (dyesT b horse mane tail) := by
 unfold g15 g55 dyesT
 rw [p17, bsm]
 cases hok : okH b with
 | false => rfl
 | true =>
  have ok := okH_of hok
  have h3 := ok.l3
  have h4 := ok.l4
  obtain ⟨mf, e80, hmf⟩ := p80 ok
  have w1 : wr ((b.Horses.length : Int) - 1) = (b.Horses.length : Int) - 1 := wr_in (by omega) (by omega)
  have w2 : wr ((b.Hanks.length : Int) - 1) = (b.Hanks.length : Int) - 1 := wr_in (by omega) (by omega)
  have e56 : g56 b mf horse b mane tail = some (rg horse 0 ((b.Horses.length : Int) - 1) && rg mane 0 ((b.Hanks.length : Int) - 1) && rg tail 0 ((b.Hanks.length : Int) - 1)) := by
   simp only [g56, g58, w1, w2, p57, bsm, cs, Bool.cond_false_right, Bool.and_assoc]
  simp only [cond_true, ne_eq, not_true_eq_false, decide_false, cond_false, e80, bsm, e56]
  cases hv : rg horse 0 ((b.Horses.length : Int) - 1) && rg mane 0 ((b.Hanks.length : Int) - 1) && rg tail 0 ((b.Hanks.length : Int) - 1) with
  | false => rfl
  | true =>
   simp only [Bool.and_eq_true, rg_iff] at hv
   obtain ⟨⟨v1, v2⟩, v3⟩ := hv
   have hlt : horse.toNat < b.Horses.length := by omega
   have hp : ixL b.Horses horse = some b.Horses[horse.toNat] := by
    unfold ixL
    rw [decide_eq_true v1.1, cond_true, List.getElem?_eq_getElem hlt]
   have hw := (ok.horses _ (List.getElem_mem hlt)).2.2
   simp only [Bool.not_true, cond_false, bsm, ne_eq, not_true_eq_false, decide_false, cond_true]
   rw [p59 ok hmf hp hw (by omega) (by omega) (by omega) (by omega), List.getElem?_eq_getElem hlt]
   simp only [bsm]
   cases dyesF b b.Horses[horse.toNat].Shade mane tail <;> rfl
end Go.Proofs.YtonjadhpjkbhnaaDoor
namespace Go.Proofs.YtonjadhpjkbhnaaDoor
open Go.Abs Go.Proofs.Th
def sdHank (x : HairHank) : Bool := decide (1 ≤ x.Weight.Low) && decide (x.Weight.Low ≤ x.Weight.High) && decide (x.Weight.High ≤ 60) && (decide (0 ≤ x.Shade.Low) && decide (x.Shade.Low ≤ x.Shade.High) && decide (x.Shade.High ≤ 20))
def sdHorse (x : HairHorse) : Bool := rg x.Mane 1 30 && rg x.Tail 1 30
theorem p35_loop1 (b : HairBook) (hl : b.Hanks.length < 900) (s : Bool) : whileC (g35_18 b) 1000 (s, 0) = some (s && b.Hanks.all sdHank) := by
 have h0 : ∀ i, g35_18 b (false, i) = some (.brk false) := fun i => by simp [g35_18, bsm]
 cases s with
 | false => rw [whileC, h0]; rfl
 | true =>
  have := while_all (f := g35_18 b) (p := sdHank) (xs := b.Hanks) hl h0 (by simp [g35_18, bsm]) (fun i x hx => by
   have hi : i < b.Hanks.length := (List.getElem?_eq_some_iff.1 hx).1
   simp only [g35_18, cond_true, bsm, ixL_nat, hx, g64, sdHank, cs, Bool.cond_false_right]
   have : decide ((i : Int) < (b.Hanks.length : Int)) = true := by simp [hi]
   rw [this, wr_nat (by omega)]
   simp only [cond_true]) b.Hanks.length 0 (by omega) 1000 (by omega)
  simpa using this
theorem p35_loop2 (b : HairBook) (hl : b.Horses.length < 900) (s : Bool) : whileC (g35_33 b) 1000 (s, 0) = some (s && b.Horses.all sdHorse) := by
 have h0 : ∀ i, g35_33 b (false, i) = some (.brk false) := fun i => by simp [g35_33, bsm]
 cases s with
 | false => rw [whileC, h0]; rfl
 | true =>
  have := while_all (f := g35_33 b) (p := sdHorse) (xs := b.Horses) hl h0 (by simp [g35_33, bsm]) (fun i x hx => by
   have hi : i < b.Horses.length := (List.getElem?_eq_some_iff.1 hx).1
   simp only [g35_33, cond_true, bsm, ixL_nat, hx, g50, sdHorse, rg, cs, Bool.cond_false_right]
   have : decide ((i : Int) < (b.Horses.length : Int)) = true := by simp [hi]
   rw [this, wr_nat (by omega)]
   simp only [cond_true]) b.Horses.length 0 (by omega) 1000 (by omega)
  simpa using this
theorem p50 (n a c : Int) : g50 n a c = some (rg n a c) := rfl
theorem p35 (b : HairBook) : g35 b = some (okH b) := by
 unfold g35
 rw [p17, bsm]
 cases hok : okH b with
 | false =>
  simp only [cond_false, show decide ((60 : Int) = 0) = false from rfl, bsm]
  have e1 : whileC (g35_18 b) 1000 (false, 0) = some false := by rw [whileC]; simp [g35_18, bsm]
  have e2 : whileC (g35_33 b) 1000 (false, 0) = some false := by rw [whileC]; simp [g35_33, bsm]
  simp only [e1, e2, bsm]
 | true =>
  have ok := okH_of hok
  have h4 := okH_l4 hok
  have h3 := ok.l3
  have q1 : b.Hanks.all sdHank = true := by
   rw [List.all_eq_true]
   intro x hx
   obtain ⟨a1, a2⟩ := ok.hanks x hx
   simp only [sdHank, Bool.and_eq_true, decide_eq_true_eq]
   omega
  have q2 : b.Horses.all sdHorse = true := by
   rw [List.all_eq_true]
   intro x hx
   obtain ⟨a1, a2, a3⟩ := ok.horses x hx
   simp only [sdHorse, Bool.and_eq_true, rg_iff]
   omega
  simp only [cond_true, decide_true, bsm, p50]
  rw [decide_eq_true (show (b.Hanks.length : Int) ≤ 4 by omega), decide_eq_true (show (b.Horses.length : Int) ≤ 3 by omega), rg_iff.2 ok.dark, rg_iff.2 ok.near, rg_iff.2 ok.mat]
  simp only [cond_true, bsm]
  rw [p35_loop1 b (by omega)]
  simp only [bsm]
  rw [p35_loop2 b (by omega), q1, q2]
  rfl
theorem p39 (n : Int) {many : Int} (h1 : 1 ≤ many) (h2 : many ≤ 9223372036854775807) : ∃ r, g39 n many = some r ∧ 0 ≤ r ∧ r < many := by
 have a1 := Int.tmod_lt_of_pos n (show 0 < many by omega)
 have a2 := Int.lt_tmod_of_pos n (show 0 < many by omega)
 unfold g39
 rw [decide_eq_false (by omega), cond_false, must_t (by simp; omega), bsm]
 by_cases h : n.tmod many < 0
 ·rw [decide_eq_true h, cond_true, wr_in (by omega) (by omega)]
  exact ⟨_, rfl, by omega, by omega⟩
 ·rw [decide_eq_false h, cond_false]
  exact ⟨_, rfl, by omega, by omega⟩
end Go.Proofs.YtonjadhpjkbhnaaDoor
namespace Go.Proofs.YtonjadhpjkbhnaaDoor
open Go.Abs Go.Proofs.Th
theorem dyesF_some {b : HairBook} {want mane tail : Int} {d : Int × Int} (h : dyesF b want mane tail = some d) : 0 ≤ d.1 ∧ d.1 ≤ b.Dark ∧ 0 ≤ d.2 ∧ d.2 ≤ b.Dark ∧ mB b want mane tail d.1 d.2 = true := by
 unfold dyesF at h
 cases hf : firstI (fun m => (firstI (fun t => mB b want mane tail m t) (b.Dark + 1).toNat 0).isSome) (b.Dark + 1).toNat 0 with
 | none => rw [hf] at h; cases h
 | some m =>
  rw [hf] at h
  obtain ⟨m1, m2, m3, _⟩ := firstI_some hf
  cases hg : firstI (fun t => mB b want mane tail m t) (b.Dark + 1).toNat 0 with
  | none => rw [hg] at m3; cases m3
  | some t =>
   obtain ⟨t1, t2, t3, _⟩ := firstI_some hg
   rw [Option.map_some, hg] at h
   cases h
   exact ⟨m1, by omega, t1, by simp only [Option.getD_some]; omega, t3⟩
end Go.Proofs.YtonjadhpjkbhnaaDoor
namespace Go.Proofs.YtonjadhpjkbhnaaDoor
open Go Go.Abs Go.Proofs.Th
theorem p39_small {n many : Int} (h0 : 0 ≤ n) (h1 : n < 2 * many) (hm : 1 ≤ many) (hk : many ≤ 1000) : g39 n many = some (if n < many then n else n - many) := by
 have e : n.tmod many = if n < many then n else n - many := by
  rw [Int.tmod_eq_emod_of_nonneg h0]
  by_cases h : n < many
  ·rw [if_pos h, Int.emod_eq_of_lt h0 h]
  ·rw [if_neg h]
   have : n = (n - many) + many := by omega
   rw [this, Int.add_emod_right, Int.emod_eq_of_lt (by omega) (by omega)]
   omega
 unfold g39
 rw [decide_eq_false (by omega), cond_false, must_t (by simp; omega), bsm, e]
 rw [decide_eq_false (by split <;> omega), cond_false]
theorem mB_swap {b : HairBook} {want mane tail m t : Int} (h : mane ≠ tail) (hm : mB b want mane tail m t = true) : mB b want tail mane t m = true := by
 unfold mB at hm ⊢
 rw [decide_eq_false h] at hm
 rw [decide_eq_false (fun e => h e.symm)]
 simp only [cond_false, Bool.and_eq_true, decide_eq_true_eq] at hm ⊢
 exact ⟨⟨hm.1.2, hm.1.1⟩, hm.2.2, hm.2.1⟩
theorem dyesF_le {b : HairBook} {want mane tail m t : Int} (m1 : 0 ≤ m) (m2 : m ≤ b.Dark) (t1 : 0 ≤ t) (t2 : t ≤ b.Dark) (h : mB b want mane tail m t = true) : ∃ d, dyesF b want mane tail = some d ∧ d.1 ≤ m := by
 have hin : (firstI (fun t => mB b want mane tail m t) (b.Dark + 1).toNat 0).isSome = true := by
  cases hg : firstI (fun t => mB b want mane tail m t) (b.Dark + 1).toNat 0 with
  | some t => rfl
  | none =>
   have h2 := firstI_none.1 hg t t1 (by omega)
   rw [h] at h2; cases h2
 cases hf : firstI (fun m => (firstI (fun t => mB b want mane tail m t) (b.Dark + 1).toNat 0).isSome) (b.Dark + 1).toNat 0 with
 | none =>
  have h1 := firstI_none.1 hf m m1 (by omega)
  rw [hin] at h1; cases h1
 | some d =>
  obtain ⟨d1, d2, d3, d4⟩ := firstI_some hf
  refine ⟨_, by unfold dyesF; rw [hf]; rfl, ?_⟩
  simp only
  by_cases l : d ≤ m
  ·exact l
  ·have := d4 m m1 (by omega)
   rw [hin] at this; cases this
theorem p52 {u v most : Int} (u1 : -1000 ≤ u) (u2 : u ≤ 1000) (v1 : -1000 ≤ v) (v2 : v ≤ 1000) (m1 : 0 ≤ most) (m2 : most ≤ 3) (h : -most ≤ u - v ∧ u - v ≤ most) : g52 u v most = some true := by
 unfold g52
 rw [wr_in (by omega) (by omega), wr_in (by omega) (by omega), p50, rg_iff.2 h]; rfl
theorem plain13 (t : HairBook) (o : Nat → Int) : g13 t o = some true := by
 unfold g13
 rw [p35, bsm]
 cases hok : okH t with
 | false => simp only [Bool.not_false, cond_true, matched_ok, bsm]
 | true =>
  have ok := okH_of hok
  have h4 := ok.l4
  have h3 := ok.l3
  have hd := ok.dark
  have hn := ok.near
  have hma := ok.mat
  simp only [Bool.not_true, cond_false, bsm]
  by_cases e1 : (t.Hanks.length : Int) < 2
  ·simp only [e1, decide_true, cond_true, matched_ok, bsm]
  ·rw [decide_eq_false e1]
   simp only [cond_false, bsm]
   by_cases e2 : (t.Horses.length : Int) = 0
   ·simp only [e2, decide_true, cond_true, matched_ok, bsm]
   ·rw [decide_eq_false e2]
    obtain ⟨i, ei, i1, i2⟩ := p39 (o 0) (many := (t.Horses.length : Int)) (by omega) (by omega)
    obtain ⟨h, eh, h1, h2⟩ := p39 (o 1) (many := (t.Hanks.length : Int)) (by omega) (by omega)
    obtain ⟨r, er, r1, r2⟩ := p39 (o 2) (many := (t.Hanks.length : Int) - 1) (by omega) (by omega)
    simp only [cond_false, ei, eh, bsm]
    rw [wr_in (show -9223372036854775808 ≤ (t.Hanks.length : Int) - 1 by omega) (by omega), er, bsm, wr_in (show -9223372036854775808 ≤ h + 1 by omega) (by omega), wr_in (show -9223372036854775808 ≤ h + 1 + r by omega) (by omega), p39_small (show 0 ≤ h + 1 + r by omega) (by omega) (by omega) (by omega), bsm]
    generalize hk : (if h + 1 + r < (t.Hanks.length : Int) then h + 1 + r else h + 1 + r - (t.Hanks.length : Int)) = k
    have k1 : 0 ≤ k := by rw [← hk]; split <;> omega
    have k2 : k < t.Hanks.length := by rw [← hk]; split <;> omega
    have hne : h ≠ k := by rw [← hk]; split <;> omega
    have hlt : i.toNat < t.Horses.length := by omega
    have hlh : h.toNat < t.Hanks.length := by omega
    have hlk : k.toNat < t.Hanks.length := by omega
    have x1 : ixL t.Hanks h = some t.Hanks[h.toNat] := by unfold ixL; rw [decide_eq_true h1, cond_true, List.getElem?_eq_getElem hlh]
    have x2 : ixL t.Hanks k = some t.Hanks[k.toNat] := by unfold ixL; rw [decide_eq_true k1, cond_true, List.getElem?_eq_getElem hlk]
    have x3 : ixL t.Horses i = some t.Horses[i.toNat] := by unfold ixL; rw [decide_eq_true i1, cond_true, List.getElem?_eq_getElem hlt]
    have hw := (ok.horses _ (List.getElem_mem hlt)).2.2
    have sh := (ok.hanks _ (List.getElem_mem hlh)).s
    have sk := (ok.hanks _ (List.getElem_mem hlk)).s
    have hT : ∀ a c, 0 ≤ a → a < (t.Hanks.length : Int) → 0 ≤ c → c < (t.Hanks.length : Int) → dyesT t i a c = (match dyesF t t.Horses[i.toNat].Shade a c with | some x => (x.1, x.2, 0) | none => (0, 0, 4)) := fun a c a1 a2 c1 c2 => by
     unfold dyesT
     rw [hok, rg_iff.2 (show 0 ≤ i ∧ i ≤ (t.Horses.length : Int) - 1 by omega), rg_iff.2 (show 0 ≤ a ∧ a ≤ (t.Hanks.length : Int) - 1 by omega), rg_iff.2 (show 0 ≤ c ∧ c ≤ (t.Hanks.length : Int) - 1 by omega), List.getElem?_eq_getElem hlt]
     rfl
    simp only [p15, bsm, hT h k h1 h2 k1 k2, hT k h k1 k2 h1 h2, x1, x2, x3]
    cases hf : dyesF t t.Horses[i.toNat].Shade h k with
    | none =>
     have hf2 : dyesF t t.Horses[i.toNat].Shade k h = none := by
      cases hg : dyesF t t.Horses[i.toNat].Shade k h with
      | none => rfl
      | some d =>
       obtain ⟨d1, d2, d3, d4, d5⟩ := dyesF_some hg
       obtain ⟨d', hd', _⟩ := dyesF_le d3 d4 d1 d2 (mB_swap (fun e => hne e.symm) d5)
       rw [hf] at hd'; cases hd'
     rw [hf2]
     simp [bsm, matched_ok, show wr 0 = 0 from rfl]
    | some d =>
     obtain ⟨d1, d2, d3, d4, d5⟩ := dyesF_some hf
     obtain ⟨c, hc, c1⟩ := dyesF_le d3 d4 d1 d2 (mB_swap hne d5)
     obtain ⟨q1, q2, q3, q4, q5⟩ := dyesF_some hc
     obtain ⟨d', hd', dle⟩ := dyesF_le q3 q4 q1 q2 (mB_swap (fun e => hne e.symm) q5)
     rw [hf] at hd'
     cases hd'
     rw [hc]
     have s1 : shOf t h d.1 = ⟨t.Hanks[h.toNat].Shade.Low + d.1, t.Hanks[h.toNat].Shade.High + d.1⟩ := by
      unfold shOf; rw [List.getElem?_eq_getElem hlh]
     have s2 : shOf t k d.2 = ⟨t.Hanks[k.toNat].Shade.Low + d.2, t.Hanks[k.toNat].Shade.High + d.2⟩ := by
      unfold shOf; rw [List.getElem?_eq_getElem hlk]
     unfold mB nearB at d5
     rw [s1, s2, decide_eq_false hne] at d5
     simp only [cond_false, Bool.and_eq_true, decide_eq_true_eq] at d5
     generalize t.Hanks[h.toNat] = M at *
     generalize t.Hanks[k.toNat] = T at *
     generalize t.Horses[i.toNat] = P at *
     have hall : ∀ u v : Int, M.Shade.Low ≤ u → u ≤ M.Shade.High → T.Shade.Low ≤ v → v ≤ T.Shade.High → (bif true then (g52 (wr (u + d.1)) P.Shade t.Near).bind fun r => some r else some false) = some true ∧ (bif true then (g52 (wr (v + d.2)) P.Shade t.Near).bind fun r => some r else some false) = some true ∧ (bif true then (g52 (wr (u + d.1)) (wr (v + d.2)) t.Match).bind fun r => some r else some false) = some true := fun u v u1 u2 v1 v2 => by
      rw [wr_in (show -9223372036854775808 ≤ u + d.1 by omega) (by omega), wr_in (show -9223372036854775808 ≤ v + d.2 by omega) (by omega), p52 (by omega) (by omega) (by omega) (by omega) hn.1 hn.2 (by omega), p52 (by omega) (by omega) (by omega) (by omega) hn.1 hn.2 (by omega), p52 (by omega) (by omega) (by omega) (by omega) hma.1 hma.2 (by omega)]
      exact ⟨rfl, rfl, rfl⟩
     have hstep : ∀ j : Int, 0 ≤ j → j < 4 → g13_37 t d.1 d.2 M T P j true = some true := fun j j1 j2 => by
      have hj : j = 0 ∨ j = 1 ∨ j = 2 ∨ j = 3 := by omega
      unfold g13_37
      rcases hj with rfl | rfl | rfl | rfl
      ·obtain ⟨b1, b2, b3⟩ := hall M.Shade.Low T.Shade.Low (by omega) (by omega) (by omega) (by omega)
       rw [show ∀ a b c d : Nat → Int, ixL [a, b, c, d] 0 = some a from fun _ _ _ _ => rfl, bsm]
       simp only [show ∀ a b : Int, arrL [a, b] 0 = a from fun _ _ => rfl, show ∀ a b : Int, arrL [a, b] 1 = b from fun _ _ => rfl]
       rw [b1, bsm, b2, bsm, b3, bsm]
      ·obtain ⟨b1, b2, b3⟩ := hall M.Shade.Low T.Shade.High (by omega) (by omega) (by omega) (by omega)
       rw [show ∀ a b c d : Nat → Int, ixL [a, b, c, d] 1 = some b from fun _ _ _ _ => rfl, bsm]
       simp only [show ∀ a b : Int, arrL [a, b] 0 = a from fun _ _ => rfl, show ∀ a b : Int, arrL [a, b] 1 = b from fun _ _ => rfl]
       rw [b1, bsm, b2, bsm, b3, bsm]
      ·obtain ⟨b1, b2, b3⟩ := hall M.Shade.High T.Shade.Low (by omega) (by omega) (by omega) (by omega)
       rw [show ∀ a b c d : Nat → Int, ixL [a, b, c, d] 2 = some c from fun _ _ _ _ => rfl, bsm]
       simp only [show ∀ a b : Int, arrL [a, b] 0 = a from fun _ _ => rfl, show ∀ a b : Int, arrL [a, b] 1 = b from fun _ _ => rfl]
       rw [b1, bsm, b2, bsm, b3, bsm]
      ·obtain ⟨b1, b2, b3⟩ := hall M.Shade.High T.Shade.High (by omega) (by omega) (by omega) (by omega)
       rw [show ∀ a b c d : Nat → Int, ixL [a, b, c, d] 3 = some d from fun _ _ _ _ => rfl, bsm]
       simp only [show ∀ a b : Int, arrL [a, b] 0 = a from fun _ _ => rfl, show ∀ a b : Int, arrL [a, b] 1 = b from fun _ _ => rfl]
       rw [b1, bsm, b2, bsm, b3, bsm]
     have hloop : forS (g13_37 t d.1 d.2 M T P) (((4 : Int) - 0).toNat) 0 true = some true := by
      rw [show ((4 : Int) - 0).toNat = 4 from rfl, forS, hstep 0 (by omega) (by omega), bsm, forS, hstep (0 + 1) (by omega) (by omega), bsm, forS, hstep (0 + 1 + 1) (by omega) (by omega), bsm, forS, hstep (0 + 1 + 1 + 1) (by omega) (by omega), bsm, forS]
     simp only [ne_eq, not_true_eq_false, decide_false, Bool.or_self, cond_false, p50, rg_iff.2 (show 0 ≤ d.1 ∧ d.1 ≤ t.Dark from ⟨d1, d2⟩), rg_iff.2 (show 0 ≤ d.2 ∧ d.2 ≤ t.Dark from ⟨d3, d4⟩), bsm, cond_true, Bool.true_and]
     rw [decide_eq_true dle, decide_eq_true c1, Bool.and_self, hloop]
     simp [bsm, matched_ok]
end Go.Proofs.YtonjadhpjkbhnaaDoor
