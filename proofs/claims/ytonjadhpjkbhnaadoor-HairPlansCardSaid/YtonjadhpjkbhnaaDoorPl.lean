/- Plain laws. Conditions: none. -/
import Derived.Test.YtonjadhpjkbhnaaDoorAr
set_option linter.unusedVariables false
set_option linter.unusedSimpArgs false
namespace Go.Proofs.YtonjadhpjkbhnaaDoor
open Go.Abs Go.Proofs.Th
theorem matched_ok : g25 = some true := by kernel_rfl
end Go.Proofs.YtonjadhpjkbhnaaDoor
namespace Go.Proofs.YtonjadhpjkbhnaaDoor
open Go.Abs Go.Proofs.Th
theorem cs {α : Type} (c : Bool) (a b : α) : (bif c then some a else some b) = some (bif c then a else b) := by cases c <;> rfl
theorem bsm {α β : Type} (a : α) (f : α → Option β) : (some a).bind f = f a := rfl
theorem eachS_all {α : Type} {f : Int → α → Bool → Option Bool} {p : α → Bool} (h : ∀ i x s, f i x s = some (s && p x)) : ∀ (xs : List α) (i : Int) (s : Bool), eachS f xs i s = some (s && xs.all p)
 | [], i, s => by simp [eachS]
 | x :: xs, i, s => by rw [eachS, h, bsm, eachS_all h xs]; simp [Bool.and_assoc]
def rg (n a b : Int) : Bool := decide (a ≤ n) && decide (n ≤ b)
theorem while_all {α : Type} {f : Bool × Int → Option (Ctl (Bool × Int) Bool)} {p : α → Bool} {xs : List α} (hl : xs.length < 900)
  (h0 : ∀ i, f (false, i) = some (.brk false)) (h1 : f (true, (xs.length : Int)) = some (.brk true))
  (h : ∀ (i : Nat) x, xs[i]? = some x → f (true, (i : Int)) = some (.next (p x, ((i + 1 : Nat) : Int)))) :
  ∀ (n i : Nat), i + n = xs.length → ∀ k, n + 2 ≤ k → whileC f k (true, (i : Int)) = some ((xs.drop i).all p)
 | 0, i, hi, k, hk => by
  obtain ⟨k, rfl⟩ : ∃ k', k = k' + 1 := ⟨k - 1, by omega⟩
  have : i = xs.length := by omega
  subst this
  rw [whileC, h1]; simp
 | n + 1, i, hi, k, hk => by
  obtain ⟨k, rfl⟩ : ∃ k', k = k' + 1 := ⟨k - 1, by omega⟩
  have hlt : i < xs.length := by omega
  rw [whileC, h i _ (List.getElem?_eq_getElem hlt), bsm, List.drop_eq_getElem_cons hlt, List.all_cons]
  cases hp : p xs[i] with
  | false =>
   obtain ⟨k, rfl⟩ : ∃ k', k = k' + 1 := ⟨k - 1, by omega⟩
   simp only; rw [whileC, h0]; rfl
  | true => simp only; rw [while_all hl h0 h1 h n (i + 1) (by omega) k (by omega)]; simp
theorem wr_nat {i : Nat} (h : i < 1000) : wr ((i : Int) + 1) = ((i + 1 : Nat) : Int) := by rw [wr_in (by omega) (by omega)]; simp
theorem ixL_nat {α : Type} (xs : List α) (i : Nat) : ixL xs (i : Int) = xs[i]? := by
 unfold ixL
 have : decide (0 ≤ (i : Int)) = true := by simp
 rw [this]; simp
def Bd (a x : Int) : Prop := -a ≤ x ∧ x ≤ a
theorem Bd.mul {a b x y : Int} (hx : Bd a x) (hy : Bd b y) : Bd (a * b) (x * y) := by
 have h1 : x.natAbs ≤ a.natAbs := by obtain ⟨h, k⟩ := hx; omega
 have h2 : y.natAbs ≤ b.natAbs := by obtain ⟨h, k⟩ := hy; omega
 have h3 := Nat.mul_le_mul h1 h2
 rw [← Int.natAbs_mul, ← Int.natAbs_mul] at h3
 have ha : 0 ≤ a := by obtain ⟨h, k⟩ := hx; omega
 have hb : 0 ≤ b := by obtain ⟨h, k⟩ := hy; omega
 have := Int.mul_nonneg ha hb
 constructor <;> omega
theorem Bd.add {a b x y : Int} (hx : Bd a x) (hy : Bd b y) : Bd (a + b) (x + y) := by obtain ⟨h, k⟩ := hx; obtain ⟨h', k'⟩ := hy; constructor <;> omega
theorem Bd.sub {a b x y : Int} (hx : Bd a x) (hy : Bd b y) : Bd (a + b) (x - y) := by obtain ⟨h, k⟩ := hx; obtain ⟨h', k'⟩ := hy; constructor <;> omega
theorem Bd.mono {a b x : Int} (hx : Bd a x) (h : a ≤ b) : Bd b x := by obtain ⟨h, k⟩ := hx; constructor <;> omega
theorem rg_iff {n a c : Int} : rg n a c = true ↔ a ≤ n ∧ n ≤ c := by simp [rg]
theorem must_t {x : Bool} (h : x = true) : must x = some () := by subst h; rfl
def allI (p : Int → Bool) : Nat → Int → Bool
 | 0, _ => true
 | n + 1, i => p i && allI p n (i + 1)
theorem allI_iff {p : Int → Bool} : ∀ {n : Nat} {i : Int}, allI p n i = true ↔ ∀ j, i ≤ j → j < i + n → p j = true
 | 0, i => ⟨fun _ j h1 h2 => by omega, fun _ => rfl⟩
 | n + 1, i => by
  rw [allI, Bool.and_eq_true, allI_iff]
  constructor
  ·rintro ⟨h0, h⟩ j h1 h2
   by_cases e : j = i
   ·rw [e]; exact h0
   ·exact h j (by omega) (by omega)
  ·intro h
   exact ⟨h i (by omega) (by omega), fun j h1 h2 => h j (by omega) (by omega)⟩
def firstI (p : Int → Bool) : Nat → Int → Option Int
 | 0, _ => none
 | n + 1, i => bif p i then some i else firstI p n (i + 1)
theorem forC_first {S R : Type} {f : Int → S → Option (Ctl S R)} (I : S → Prop) (p : Int → Bool) (r : Int → R) : ∀ (n : Nat) (i : Int) (s : S), I s →
  (∀ j s, i ≤ j → j < i + n → I s → ∃ s', I s' ∧ f j s = some (bif p j then .brk (r j) else .next s')) →
  ∃ s', I s' ∧ forC f n i s = some (match firstI p n i with | some j => .brk (r j) | none => .next s')
 | 0, i, s, hs, h => ⟨s, hs, rfl⟩
 | n + 1, i, s, hs, h => by
  obtain ⟨s1, h1, e1⟩ := h i s (by omega) (by omega) hs
  rw [forC, e1, bsm, firstI]
  cases p i with
  | true => exact ⟨s1, h1, rfl⟩
  | false => exact forC_first I p r n (i + 1) s1 h1 (fun j s k1 k2 => h j s (by omega) (by omega))
theorem forC_firstU {R : Type} {f : Int → Unit → Option (Ctl Unit R)} (p : Int → Bool) (r : Int → R) (n : Nat) (i : Int) (h : ∀ j, i ≤ j → j < i + n → f j () = some (bif p j then .brk (r j) else .next ())) :
  forC f n i () = some (match firstI p n i with | some j => .brk (r j) | none => .next ()) := by
 obtain ⟨s, _, e⟩ := forC_first (fun _ => True) p r n i () trivial (fun j s h1 h2 _ => ⟨(), trivial, h j h1 h2⟩)
 exact e
theorem allI_not (p : Int → Bool) : ∀ (n : Nat) (i : Int), allI (fun j => !p j) n i = (firstI p n i).isNone
 | 0, i => rfl
 | n + 1, i => by
  rw [allI, firstI, allI_not p n]
  cases p i <;> rfl
theorem roomB_ok {n b : Nat} (h : n * b ≤ 140737488355328) : roomB n b = true := Nat.ble_eq_true_of_le h
theorem appL_ok {α : Type} {sz : Nat} {l m : List α} (h : (l ++ m).length * sz ≤ 140737488355328) : appL sz l m = some (l ++ m) := by
 unfold appL
 rw [roomB_ok h]; rfl
theorem forS_inv {S : Type} {f : Int → S → Option S} (I : Int → S → Prop) : ∀ (n : Nat) (i : Int) (s : S), I i s → (∀ j s, i ≤ j → j < i + n → I j s → ∃ s', f j s = some s' ∧ I (j + 1) s') → ∃ s', forS f n i s = some s' ∧ I (i + n) s'
 | 0, i, s, hs, h => ⟨s, rfl, by simpa using hs⟩
 | n + 1, i, s, hs, h => by
  obtain ⟨s1, e1, h1⟩ := h i s (by omega) (by omega) hs
  obtain ⟨s2, e2, h2⟩ := forS_inv I n (i + 1) s1 h1 (fun j s k1 k2 => h j s (by omega) (by omega))
  refine ⟨s2, by rw [forS, e1, bsm, e2], ?_⟩
  rw [show i + ((n + 1 : Nat) : Int) = i + 1 + (n : Int) by omega]
  exact h2
theorem ixN_nat {n i : Nat} (h : i < n) : ixN n (i : Int) = some i := by
 unfold ixN
 have : (decide (0 ≤ (i : Int)) && Nat.blt (i : Int).toNat n) = true := by simp [h, Nat.blt_eq]
 rw [this]; simp
theorem mfd_append {K W : Type} (q : K → K → Bool) (k k' : K) (w : W) : ∀ (m : List (K × W)) (i : Nat), (mfd q k (m ++ [(k', w)]) i).map (·.2) = match (mfd q k m i).map (·.2) with
  | some v => some v
  | none => bif q k k' then some w else none
 | [], i => by
  simp only [List.nil_append, mfd]
  cases q k k' <;> rfl
 | p :: m, i => by
  simp only [List.cons_append, mfd]
  cases q k p.1 with
  | true => rfl
  | false => simp only [cond_false]; exact mfd_append q k k' w m (i + 1)
theorem mget_append {K W : Type} (q : K → K → Bool) (m : List (K × W)) (k k' : K) (w : W) : mget q (m ++ [(k', w)]) k = match mget q m k with
  | some v => some v
  | none => bif q k k' then some w else none := mfd_append q k k' w m 0
end Go.Proofs.YtonjadhpjkbhnaaDoor
namespace Go.Proofs.YtonjadhpjkbhnaaDoor
open Go.Abs Go.Proofs.Th
def okSpan (s : Span) (a c w : Int) : Bool := decide (a ≤ s.Low) && decide (s.Low ≤ s.High) && decide (s.High ≤ c) && decide (wr (s.High - s.Low) ≤ w)
def okHank (x : HairHank) : Bool := okSpan x.Weight 1 60 4 && okSpan x.Shade 0 20 2
def okHorse (x : HairHorse) : Bool := rg x.Mane 1 30 && rg x.Tail 1 30 && rg x.Shade 0 25
def okH (b : HairBook) : Bool := decide ((b.Hanks.length : Int) ≤ 4) && decide ((b.Horses.length : Int) ≤ 3) && rg b.Dark 0 4 && rg b.Near 0 3 && rg b.Match 0 3 && b.Hanks.all okHank && b.Horses.all okHorse
theorem p57 (n a c : Int) : g57 n a c = some (rg n a c) := rfl
theorem p63 (s : Span) (a c w : Int) : g63 s a c w = some (okSpan s a c w) := rfl
theorem p17_15 (i : Int) (x : HairHank) (s : Bool) : g17_15 i x s = some (s && okHank x) := by
 simp only [g17_15, p63, bsm, cs, okHank, Bool.cond_false_right, Bool.and_assoc]
theorem p17_31 (i : Int) (x : HairHorse) (s : Bool) : g17_31 i x s = some (s && okHorse x) := by
 simp only [g17_31, p57, bsm, cs, okHorse, Bool.cond_false_right, Bool.and_assoc]
theorem p17 (b : HairBook) : g17 b = some (bif okH b then 0 else 60) := by
 unfold g17
 simp only [p57, bsm, cs, Bool.cond_false_right, eachS_all p17_15, eachS_all p17_31]
 have : ∀ x : Bool, (bif !x then (60 : Int) else 0) = bif x then 0 else 60 := by intro x; cases x <;> rfl
 rw [this]
 simp only [okH, Bool.and_assoc]
structure HankOk (x : HairHank) : Prop where
 w : 1 ≤ x.Weight.Low ∧ x.Weight.Low ≤ x.Weight.High ∧ x.Weight.High ≤ 60
 s : 0 ≤ x.Shade.Low ∧ x.Shade.Low ≤ x.Shade.High ∧ x.Shade.High ≤ 20
structure OkH (b : HairBook) : Prop where
 l4 : b.Hanks.length ≤ 5
 l3 : b.Horses.length ≤ 3
 dark : 0 ≤ b.Dark ∧ b.Dark ≤ 4
 near : 0 ≤ b.Near ∧ b.Near ≤ 3
 mat : 0 ≤ b.Match ∧ b.Match ≤ 3
 hanks : ∀ x, x ∈ b.Hanks → HankOk x
 horses : ∀ x, x ∈ b.Horses → (1 ≤ x.Mane ∧ x.Mane ≤ 30) ∧ (1 ≤ x.Tail ∧ x.Tail ≤ 30) ∧ 0 ≤ x.Shade ∧ x.Shade ≤ 25
theorem okH_of {b : HairBook} (h : okH b = true) : OkH b := by
 simp only [okH, Bool.and_eq_true, rg_iff, decide_eq_true_eq, List.all_eq_true] at h
 obtain ⟨⟨⟨⟨⟨⟨h1, h2⟩, h3⟩, h4⟩, h5⟩, h6⟩, h7⟩ := h
 refine ⟨by omega, by omega, h3, h4, h5, fun x hx => ?_, fun x hx => ?_⟩
 ·have := h6 x hx
  simp only [okHank, okSpan, Bool.and_eq_true, decide_eq_true_eq] at this
  exact ⟨by omega, by omega⟩
 ·have := h7 x hx
  simp only [okHorse, Bool.and_eq_true, rg_iff] at this
  omega
theorem q84_iff (x y : Hair_dye) : q84 x y = true ↔ x = y := by
 cases x; cases y
 simp [q84]
def shOf (b : HairBook) (h n : Int) : Span := match b.Hanks[h.toNat]? with
 | some x => ⟨x.Shade.Low + n, x.Shade.High + n⟩
 | none => ⟨0, 0⟩
def ShK (b : HairBook) (k j : Int) (m : List (Hair_dye × Span)) : Prop := ∀ h n, mget q84 m ⟨h, n⟩ = bif (decide (0 ≤ h) && decide (h < k) && decide (0 ≤ n) && decide (n ≤ b.Dark)) || (decide (h = k) && decide (0 ≤ n) && decide (n < j)) then some (shOf b h n) else none
theorem eachS_inv {α S : Type} {f : Int → α → S → Option S} (I : Nat → S → Prop) : ∀ (xs : List α) (i : Nat) (s : S), I i s → (∀ j x s, i ≤ j → xs[j - i]? = some x → I j s → ∃ s', f (j : Int) x s = some s' ∧ I (j + 1) s') → ∃ s', eachS f xs (i : Int) s = some s' ∧ I (i + xs.length) s'
 | [], i, s, hs, h => ⟨s, rfl, by simpa using hs⟩
 | x :: xs, i, s, hs, h => by
  obtain ⟨s1, e1, h1⟩ := h i x s (Nat.le_refl _) (by simp) hs
  obtain ⟨s2, e2, h2⟩ := eachS_inv I xs (i + 1) s1 h1 (fun j y s hj hy hI => h j y s (by omega) (by
   have : j - i = (j - (i + 1)) + 1 := by omega
   rw [this, List.getElem?_cons_succ]; exact hy) hI)
  refine ⟨s2, ?_, ?_⟩
  ·rw [eachS, e1, bsm, show (i : Int) + 1 = ((i + 1 : Nat) : Int) by omega, e2]
  ·rw [List.length_cons, show i + (xs.length + 1) = i + 1 + xs.length by omega]; exact h2
theorem p80_8 {b : HairBook} (ok : OkH b) {k : Nat} {x : HairHank} (hx : b.Hanks[k]? = some x) {j : Int} (h0 : 0 ≤ j) (h1 : j ≤ b.Dark) {m : List (Hair_dye × Span)} (hm : ShK b k j m) : ∃ m', g80_8 (k : Int) x j m = some m' ∧ ShK b k (j + 1) m' := by
 have hd := ok.dark
 have hs := (ok.hanks x (List.mem_of_getElem? hx)).s
 have hnone : mget q84 m ⟨(k : Int), j⟩ = none := by
  rw [hm]
  have : ((decide (0 ≤ (k : Int)) && decide ((k : Int) < (k : Int)) && decide (0 ≤ j) && decide (j ≤ b.Dark)) || (decide ((k : Int) = (k : Int)) && decide (0 ≤ j) && decide (j < j))) = false := by simp
  rw [this]; rfl
 have hsh : shOf b (k : Int) j = ⟨x.Shade.Low + j, x.Shade.High + j⟩ := by
  unfold shOf
  rw [Int.toNat_natCast, hx]
 refine ⟨m ++ [(⟨(k : Int), j⟩, ⟨x.Shade.Low + j, x.Shade.High + j⟩)], ?_, fun h n => ?_⟩
 ·unfold g80_8 mput
  rw [hnone, wr_in (by omega) (by omega), wr_in (by omega) (by omega)]
  rfl
 ·rw [mget_append]
  by_cases he : h = (k : Int) ∧ n = j
  ·obtain ⟨rfl, rfl⟩ := he
   rw [hnone]
   have hq : q84 ⟨(k : Int), n⟩ ⟨(k : Int), n⟩ = true := (q84_iff _ _).2 rfl
   have ht : ((decide (0 ≤ (k : Int)) && decide ((k : Int) < (k : Int)) && decide (0 ≤ n) && decide (n ≤ b.Dark)) || (decide ((k : Int) = (k : Int)) && decide (0 ≤ n) && decide (n < n + 1))) = true := by
    simp; omega
   rw [ht, hsh]
   simp only [hq, cond_true]
  ·have hq : q84 ⟨h, n⟩ ⟨(k : Int), j⟩ = false := by
    cases hc : q84 ⟨h, n⟩ ⟨(k : Int), j⟩ with
    | false => rfl
    | true =>
     have := (q84_iff _ _).1 hc
     injection this with e1 e2
     exact absurd ⟨e1, e2⟩ he
   rw [hm, hq]
   have : (decide (h = (k : Int)) && decide (0 ≤ n) && decide (n < j)) = (decide (h = (k : Int)) && decide (0 ≤ n) && decide (n < j + 1)) := by
    rw [Bool.eq_iff_iff]
    simp only [Bool.and_eq_true, decide_eq_true_eq]
    constructor
    ·rintro ⟨⟨a1, a2⟩, a3⟩; exact ⟨⟨a1, a2⟩, by omega⟩
    ·rintro ⟨⟨a1, a2⟩, a3⟩
     refine ⟨⟨a1, a2⟩, ?_⟩
     by_cases e : n = j
     ·exact absurd ⟨a1, e⟩ he
     ·omega
   rw [this]
   cases (decide (0 ≤ h) && decide (h < (k : Int)) && decide (0 ≤ n) && decide (n ≤ b.Dark)) || (decide (h = (k : Int)) && decide (0 ≤ n) && decide (n < j + 1)) <;> rfl
def ShOk (b : HairBook) (m : List (Hair_dye × Span)) : Prop := ∀ (h n : Int), 0 ≤ h → h < b.Hanks.length → 0 ≤ n → n ≤ b.Dark → mget q84 m ⟨h, n⟩ = some (shOf b h n)
theorem p80 {b : HairBook} (ok : OkH b) : ∃ m, g80 b = some (b, m) ∧ ShOk b m := by
 have hd := ok.dark
 have e : wr (b.Dark + 1) = b.Dark + 1 := wr_in (by omega) (by omega)
 obtain ⟨m, em, hm⟩ := eachS_inv (f := g80_3 b) (fun k m => ShK b (k : Int) 0 m) b.Hanks 0 [] (fun h n => by
  have : ((decide (0 ≤ h) && decide (h < ((0 : Nat) : Int)) && decide (0 ≤ n) && decide (n ≤ b.Dark)) || (decide (h = ((0 : Nat) : Int)) && decide (0 ≤ n) && decide (n < 0))) = false := by
   rw [Bool.eq_false_iff]
   intro hc
   simp only [Bool.or_eq_true, Bool.and_eq_true, decide_eq_true_eq] at hc
   omega
  rw [this]; rfl) (fun k x m hk hx hm => by
  rw [Nat.sub_zero] at hx
  obtain ⟨m', e', h'⟩ := forS_inv (f := g80_8 (k : Int) x) (fun j m => ShK b (k : Int) j m) (b.Dark + 1 - 0).toNat 0 m hm (fun j s j1 j2 hs => p80_8 ok hx j1 (by omega) hs)
  refine ⟨m', by unfold g80_3; rw [e, e', bsm], fun h n => ?_⟩
  rw [h']
  congr 1
  rw [Bool.eq_iff_iff]
  simp only [Bool.or_eq_true, Bool.and_eq_true, decide_eq_true_eq]
  omega)
 refine ⟨m, ?_, fun h n h1 h2 h3 h4 => ?_⟩
 ·unfold g80
  rw [show ((0 : Nat) : Int) = 0 from rfl] at em
  rw [em, bsm]
 ·rw [hm]
  have : ((decide (0 ≤ h) && decide (h < ((0 + b.Hanks.length : Nat) : Int)) && decide (0 ≤ n) && decide (n ≤ b.Dark)) || (decide (h = ((0 + b.Hanks.length : Nat) : Int)) && decide (0 ≤ n) && decide (n < 0))) = true := by
   simp only [Bool.or_eq_true, Bool.and_eq_true, decide_eq_true_eq]
   omega
  rw [this]; rfl
def nearB (b : HairBook) (want : Int) (s : Span) : Bool := decide (s.High - want ≤ b.Near) && decide (want - s.Low ≤ b.Near)
def mB (b : HairBook) (want mane tail m t : Int) : Bool := nearB b want (shOf b mane m) && nearB b want (shOf b tail t) &&
 bif decide (mane = tail) then decide (-b.Match ≤ m - t) && decide (m - t ≤ b.Match) else decide ((shOf b mane m).High - (shOf b tail t).Low ≤ b.Match) && decide ((shOf b tail t).High - (shOf b mane m).Low ≤ b.Match)
theorem sh_bd {b : HairBook} (ok : OkH b) {h n : Int} (h1 : 0 ≤ h) (h2 : h < b.Hanks.length) (h3 : 0 ≤ n) (h4 : n ≤ b.Dark) : 0 ≤ (shOf b h n).Low ∧ (shOf b h n).Low ≤ (shOf b h n).High ∧ (shOf b h n).High ≤ 24 := by
 have hd := ok.dark
 have hlt : h.toNat < b.Hanks.length := by omega
 have hs := (ok.hanks _ (List.getElem_mem hlt)).s
 unfold shOf
 rw [List.getElem?_eq_getElem hlt]
 simp only
 omega
theorem p100 {b : HairBook} (ok : OkH b) {mf : List (Hair_dye × Span)} (hmf : ShOk b mf) {horse : Int} {p : HairHorse} (hp : ixL b.Horses horse = some p) (hw : 0 ≤ p.Shade ∧ p.Shade ≤ 25) {mane tail m t : Int} (a1 : 0 ≤ mane) (a2 : mane < b.Hanks.length) (b1 : 0 ≤ tail) (b2 : tail < b.Hanks.length)
  (m1 : 0 ≤ m) (m2 : m ≤ b.Dark) (t1 : 0 ≤ t) (t2 : t ≤ b.Dark) : g100 b mf horse ⟨mane, m⟩ ⟨tail, t⟩ = some (mB b p.Shade mane tail m t) := by
 have hd := ok.dark
 have hn := ok.near
 have hma := ok.mat
 have hs := sh_bd ok a1 a2 m1 m2
 have ht := sh_bd ok b1 b2 t1 t2
 unfold g100
 rw [hp, bsm, hmf mane m a1 a2 m1 m2, hmf tail t b1 b2 t1 t2]
 simp only [Option.getD_some]
 generalize hS : shOf b mane m = s at hs
 generalize hT : shOf b tail t = u at ht
 have g3 : ∀ a x y z, g113 a [x, y, z] = some (max (max (max a x) y) z) := fun _ _ _ _ => rfl
 have g1 : ∀ a x, g113 a [x] = some (max a x) := fun _ _ => rfl
 rw [wr_in (show -9223372036854775808 ≤ s.High - p.Shade by omega) (by omega), wr_in (show -9223372036854775808 ≤ p.Shade - s.Low by omega) (by omega), wr_in (show -9223372036854775808 ≤ u.High - p.Shade by omega) (by omega), wr_in (show -9223372036854775808 ≤ p.Shade - u.Low by omega) (by omega), g3, bsm,
  wr_in (show -9223372036854775808 ≤ m - t by omega) (by omega), wr_in (show -9223372036854775808 ≤ -b.Match by omega) (by omega), wr_in (show -9223372036854775808 ≤ s.High - u.Low by omega) (by omega), wr_in (show -9223372036854775808 ≤ u.High - s.Low by omega) (by omega), g1, p57]
 simp only [bsm, cs]
 unfold mB nearB
 rw [hS, hT]
 by_cases hnear : b.Near < max (max (max (s.High - p.Shade) (p.Shade - s.Low)) (u.High - p.Shade)) (p.Shade - u.Low)
 ·rw [decide_eq_true hnear, cond_true]
  have : (decide (s.High - p.Shade ≤ b.Near) && decide (p.Shade - s.Low ≤ b.Near) && (decide (u.High - p.Shade ≤ b.Near) && decide (p.Shade - u.Low ≤ b.Near))) = false := by
   rw [Bool.eq_false_iff]
   intro hc
   simp only [Bool.and_eq_true, decide_eq_true_eq] at hc
   omega
  rw [this]; rfl
 ·rw [decide_eq_false hnear, cond_false]
  have : (decide (s.High - p.Shade ≤ b.Near) && decide (p.Shade - s.Low ≤ b.Near) && (decide (u.High - p.Shade ≤ b.Near) && decide (p.Shade - u.Low ≤ b.Near))) = true := by
   simp only [Bool.and_eq_true, decide_eq_true_eq]
   omega
  rw [this, Bool.true_and]
  by_cases he : mane = tail
  ·rw [decide_eq_true he]
   simp only [cond_true]
   by_cases hmt : m = t
   ·subst he; subst hmt
    have e1 : (false != ((mane == mane) && ((m == m) && true))) = true := by simp
    have e2 : (decide (-b.Match ≤ m - m) && decide (m - m ≤ b.Match)) = true := by
     simp only [Bool.and_eq_true, decide_eq_true_eq]; omega
    rw [e1, e2]; rfl
   ·have e1 : (false != ((mane == tail) && ((m == t) && true))) = false := by
     have : (m == t) = false := by simpa using hmt
     rw [this]; simp
    rw [e1]; rfl
  ·rw [decide_eq_false he]
   simp only [cond_false]
   congr 1
   rw [Bool.eq_iff_iff]
   simp only [Bool.and_eq_true, decide_eq_true_eq]
   omega
def dyesF (b : HairBook) (want mane tail : Int) : Option (Int × Int) := (firstI (fun m => (firstI (fun t => mB b want mane tail m t) (b.Dark + 1).toNat 0).isSome) (b.Dark + 1).toNat 0).map fun m => (m, (firstI (fun t => mB b want mane tail m t) (b.Dark + 1).toNat 0).getD 0)
theorem p59 {b : HairBook} (ok : OkH b) {mf : List (Hair_dye × Span)} (hmf : ShOk b mf) {horse : Int} {p : HairHorse} (hp : ixL b.Horses horse = some p) (hw : 0 ≤ p.Shade ∧ p.Shade ≤ 25) {mane tail : Int} (a1 : 0 ≤ mane) (a2 : mane < b.Hanks.length) (b1 : 0 ≤ tail) (b2 : tail < b.Hanks.length) :
  g59 b mf horse mane tail = some (match dyesF b p.Shade mane tail with | some x => (⟨mane, x.1⟩, ⟨tail, x.2⟩, true) | none => (⟨0, 0⟩, ⟨0, 0⟩, false)) := by
 have hd := ok.dark
 have e : wr (b.Dark + 1) = b.Dark + 1 := wr_in (by omega) (by omega)
 unfold g59
 rw [e, Int.sub_zero]
 have := forC_firstU (f := g59_2 b mf horse mane tail) (fun m => (firstI (fun t => mB b p.Shade mane tail m t) (b.Dark + 1).toNat 0).isSome) (fun m => ((⟨mane, m⟩ : Hair_dye), (⟨tail, (firstI (fun t => mB b p.Shade mane tail m t) (b.Dark + 1).toNat 0).getD 0⟩ : Hair_dye), true)) (b.Dark + 1).toNat 0 (fun m m1 m2 => by
  have := forC_firstU (f := g59_6 b mf horse mane tail m) (fun t => mB b p.Shade mane tail m t) (fun t => .brk ((⟨mane, m⟩ : Hair_dye), (⟨tail, t⟩ : Hair_dye), true)) (b.Dark + 1).toNat 0 (fun t t1 t2 => by
   unfold g59_6
   rw [p100 ok hmf hp hw a1 a2 b1 b2 m1 (by omega) t1 (by omega), bsm, cs])
  unfold g59_2
  rw [e, Int.sub_zero, this]
  cases firstI (fun t => mB b p.Shade mane tail m t) (b.Dark + 1).toNat 0 <;> rfl)
 rw [this]
 unfold dyesF
 cases firstI (fun m => (firstI (fun t => mB b p.Shade mane tail m t) (b.Dark + 1).toNat 0).isSome) (b.Dark + 1).toNat 0 <;> rfl
def dyesT (b : HairBook) (horse mane tail : Int) : Int × Int × Int :=
 bif okH b then (bif rg horse 0 ((b.Horses.length : Int) - 1) && rg mane 0 ((b.Hanks.length : Int) - 1) && rg tail 0 ((b.Hanks.length : Int) - 1) then
  (match b.Horses[horse.toNat]? with | some p => (match dyesF b p.Shade mane tail with | some x => (x.1, x.2, 0) | none => (0, 0, 4)) | none => (0, 0, 0)) else (0, 0, 61)) else (0, 0, 60)
theorem p15 (b : HairBook) (horse mane tail : Int) : g15 b horse mane tail = some (dyesT b horse mane tail) := by
 unfold g15 g55 dyesT
 rw [p17, bsm]
 cases hok : okH b with
 | false => rfl
 | true =>
  have ok := okH_of hok
  have h3 := ok.l3
  have h4 := ok.l4
  obtain ⟨mf, e80, hmf⟩ := p80 ok
  have w1 : wr ((b.Horses.length : Int) - 1) = (b.Horses.length : Int) - 1 := wr_in (by omega) (by omega)
  have w2 : wr ((b.Hanks.length : Int) - 1) = (b.Hanks.length : Int) - 1 := wr_in (by omega) (by omega)
  have e56 : g56 b mf horse b mane tail = some (rg horse 0 ((b.Horses.length : Int) - 1) && rg mane 0 ((b.Hanks.length : Int) - 1) && rg tail 0 ((b.Hanks.length : Int) - 1)) := by
   simp only [g56, g58, w1, w2, p57, bsm, cs, Bool.cond_false_right, Bool.and_assoc]
  simp only [cond_true, ne_eq, not_true_eq_false, decide_false, cond_false, e80, bsm, e56]
  cases hv : rg horse 0 ((b.Horses.length : Int) - 1) && rg mane 0 ((b.Hanks.length : Int) - 1) && rg tail 0 ((b.Hanks.length : Int) - 1) with
  | false => rfl
  | true =>
   simp only [Bool.and_eq_true, rg_iff] at hv
   obtain ⟨⟨v1, v2⟩, v3⟩ := hv
   have hlt : horse.toNat < b.Horses.length := by omega
   have hp : ixL b.Horses horse = some b.Horses[horse.toNat] := by
    unfold ixL
    rw [decide_eq_true v1.1, cond_true, List.getElem?_eq_getElem hlt]
   have hw := (ok.horses _ (List.getElem_mem hlt)).2.2
   simp only [Bool.not_true, cond_false, bsm, ne_eq, not_true_eq_false, decide_false, cond_true]
   rw [p59 ok hmf hp hw (by omega) (by omega) (by omega) (by omega), List.getElem?_eq_getElem hlt]
   simp only [bsm]
   cases dyesF b b.Horses[horse.toNat].Shade mane tail <;> rfl
end Go.Proofs.YtonjadhpjkbhnaaDoor
namespace Go.Proofs.YtonjadhpjkbhnaaDoor
open Go.Abs Go.Proofs.Th
theorem p50 (n a c : Int) : g50 n a c = some (rg n a c) := rfl
end Go.Proofs.YtonjadhpjkbhnaaDoor
namespace Go.Proofs.YtonjadhpjkbhnaaDoor
open Go.Abs Go.Proofs.Th
def partN (b : HairBook) (v : Nat) : Int := match b.Horses[v / 2]? with
 | some h => bif decide (v % 2 = 0) then h.Mane else h.Tail
 | none => 0
def cutS (b : HairBook) : List Int → Nat → Int → Int
 | [], _, _ => 0
 | p :: ps, v, k => (bif decide (p = k) then partN b v else 0) + cutS b ps (v + 1) k
theorem partN_bd {b : HairBook} (ok : OkH b) (v : Nat) : 0 ≤ partN b v ∧ partN b v ≤ 30 := by
 unfold partN
 cases hh : b.Horses[v / 2]? with
 | none => simp
 | some h =>
  obtain ⟨h1, h2, _⟩ := ok.horses h (List.mem_of_getElem? hh)
  simp only
  cases decide (v % 2 = 0) <;> simp only [cond_true, cond_false] <;> omega
theorem cutS_bd {b : HairBook} (ok : OkH b) (k : Int) : ∀ (ps : List Int) (v : Nat), 0 ≤ cutS b ps v k ∧ cutS b ps v k ≤ 30 * ps.length
 | [], v => by simp [cutS]
 | p :: ps, v => by
  have h1 := partN_bd ok v
  have h2 := cutS_bd ok k ps (v + 1)
  rw [cutS, List.length_cons]
  cases decide (p = k) <;> simp only [cond_true, cond_false] <;> omega
def planB (b : HairBook) (plan : List Int) : Bool := decide ((plan.length : Int) = 2 * (b.Horses.length : Int)) && plan.all fun n => rg n 0 ((b.Hanks.length : Int) - 1)
structure PlanOk (b : HairBook) (plan : List Int) : Prop where
 len : plan.length = 2 * b.Horses.length
 rng : ∀ n, n ∈ plan → 0 ≤ n ∧ n < b.Hanks.length
theorem plan_of {b : HairBook} {plan : List Int} (h : planB b plan = true) : PlanOk b plan := by
 simp only [planB, Bool.and_eq_true, decide_eq_true_eq, List.all_eq_true, rg_iff] at h
 exact ⟨by omega, fun n hn => by have := h.2 n hn; omega⟩
theorem tdiv_nat (v : Nat) : (v : Int).tdiv 2 = ((v / 2 : Nat) : Int) := rfl
theorem tmod_nat (v : Nat) : (v : Int).tmod 2 = ((v % 2 : Nat) : Int) := rfl
theorem aset_get (w : Nat → Int) (j k : Nat) (x : Int) : aset w j x k = if k = j then x else w k := by
 unfold aset
 by_cases h : k = j
 ·subst h; simp
 ·rw [if_neg h]
  cases hb : Nat.beq k j with
  | true => exact absurd (Nat.eq_of_beq_eq_true hb) h
  | false => rfl
theorem p71_loop {b : HairBook} (ok : OkH b) : ∀ (ps : List Int) (v : Nat) (w : Nat → Int) (c : Int), v + ps.length ≤ 2 * b.Horses.length → (∀ n, n ∈ ps → 0 ≤ n ∧ n < b.Hanks.length) → 0 ≤ c → c + 30 * ps.length ≤ 1000 → (∀ k, 0 ≤ w k ∧ w k ≤ c) →
  ∃ w', eachS (g71_5 b) ps (v : Int) w = some w' ∧ ∀ k : Nat, w' k = w k + cutS b ps v (k : Int)
 | [], v, w, c, hl, hr, h0, hc, hw => ⟨w, rfl, fun k => by simp [cutS]⟩
 | p :: ps, v, w, c, hl, hr, h0, hc, hw => by
  simp only [List.length_cons] at hl hc
  have h4 := ok.l4
  have h3 := ok.l3
  have hp := hr p (by simp)
  have hpn := partN_bd ok v
  obtain ⟨q, rfl⟩ : ∃ q : Nat, p = (q : Int) := ⟨p.toNat, by omega⟩
  have hq5 : q < 5 := by omega
  have hlt : v / 2 < b.Horses.length := by omega
  have hwq := hw q
  have hstep : g71_5 b (v : Int) (q : Int) w = some (aset w q (w q + partN b v)) := by
   unfold g71_5
   rw [ixN_nat hq5, bsm, tmod_nat, ixN_nat (show v % 2 < 2 by omega), bsm, tdiv_nat, wr_in (by omega) (by omega), ixL_nat, List.getElem?_eq_getElem hlt]
   unfold partN at hpn ⊢
   rw [List.getElem?_eq_getElem hlt] at hpn ⊢
   simp only at hpn ⊢
   have hm : v % 2 = 0 ∨ v % 2 = 1 := by omega
   rcases hm with hm | hm
   ·rw [hm] at hpn ⊢
    simp only [decide_true, cond_true, bsm, g133, ixN_nat hq5] at hpn ⊢
    rw [wr_in (by omega) (by omega)]
   ·rw [hm] at hpn ⊢
    simp only [show decide ((1 : Nat) = 0) = false from rfl, cond_false, bsm, g135, ixN_nat hq5] at hpn ⊢
    rw [wr_in (by omega) (by omega)]
  obtain ⟨w', e, hw'⟩ := p71_loop ok ps (v + 1) (aset w q (w q + partN b v)) (c + 30) (by omega) (fun n hn => hr n (by simp [hn])) (by omega) (by omega) (fun k => by
   rw [aset_get]
   have := hw k
   by_cases hk : k = q
   ·subst hk; rw [if_pos rfl]; omega
   ·rw [if_neg hk]; omega)
  refine ⟨w', ?_, fun k => ?_⟩
  ·rw [eachS, hstep, bsm, show (v : Int) + 1 = ((v + 1 : Nat) : Int) by omega, e]
  ·rw [hw', cutS, aset_get]
   by_cases hk : k = q
   ·subst hk; rw [if_pos rfl, decide_eq_true rfl]; simp only [cond_true]; omega
   ·rw [if_neg hk, decide_eq_false (by omega)]; simp only [cond_false]; omega
theorem p71 {b : HairBook} (ok : OkH b) (mf : List (Hair_dye × Span)) {plan : List Int} (hp : PlanOk b plan) : ∃ w, g71 b mf plan = some w ∧ ∀ k : Nat, w k = cutS b plan 0 (k : Int) := by
 have h3 := ok.l3
 have hl := hp.len
 have hz : ∀ k, arrL [(0 : Int), 0, 0, 0, 0] k = 0 := fun k => by
  match k with
  | 0 => rfl
  | 1 => rfl
  | 2 => rfl
  | 3 => rfl
  | 4 => rfl
  | k + 5 => rfl
 obtain ⟨w, e, hw⟩ := p71_loop ok plan 0 (arrL [0, 0, 0, 0, 0]) 0 (by omega) hp.rng (by omega) (by omega) (fun k => by rw [hz]; omega)
 refine ⟨w, ?_, fun k => by rw [hw, hz]; omega⟩
 unfold g71 g105
 rw [show ((0 : Nat) : Int) = 0 from rfl] at e
 rw [bsm, e, bsm]
theorem p58 {b : HairBook} (ok : OkH b) (mf : List (Hair_dye × Span)) (n : Int) : g58 b mf n = some (rg n 0 ((b.Hanks.length : Int) - 1)) := by
 have h4 := ok.l4
 unfold g58
 rw [wr_in (by omega) (by omega), p57]; rfl
theorem p115 {b : HairBook} (ok : OkH b) (mf : List (Hair_dye × Span)) : ∀ (s : List Int) (i : Int), 0 ≤ i → ∃ c, eachC (g115_3 b mf) s i () = some c ∧ ((s.all (fun n => rg n 0 ((b.Hanks.length : Int) - 1)) = true ∧ c = .next ()) ∨ (s.all (fun n => rg n 0 ((b.Hanks.length : Int) - 1)) = false ∧ ∃ j, c = .brk j ∧ 0 ≤ j))
 | [], i, h => ⟨.next (), rfl, .inl ⟨rfl, rfl⟩⟩
 | x :: xs, i, h => by
  rw [eachC]
  simp only [g115_3, g103, p58 ok, bsm]
  cases hx : rg x 0 ((b.Hanks.length : Int) - 1) with
  | true =>
   obtain ⟨c, h1, h2⟩ := p115 ok mf xs (i + 1) (by omega)
   refine ⟨c, by simpa [bsm] using h1, ?_⟩
   rw [List.all_cons, hx, Bool.true_and]; exact h2
  | false => exact ⟨.brk i, rfl, .inr ⟨by rw [List.all_cons, hx]; rfl, i, rfl, h⟩⟩
theorem p66 {b : HairBook} (ok : OkH b) (mf : List (Hair_dye × Span)) (plan : List Int) : g66 b mf plan = some (planB b plan) := by
 have h3 := ok.l3
 unfold g66 g102 g115 planB
 rw [wr_in (by omega) (by omega)]
 cases decide ((plan.length : Int) = 2 * (b.Horses.length : Int)) with
 | false => rfl
 | true =>
  obtain ⟨c, h1, h2⟩ := p115 ok mf plan 0 (by omega)
  rw [h1]
  rcases h2 with ⟨h2, rfl⟩ | ⟨h2, j, rfl, h3⟩
  ·rw [h2]; rfl
  ·rw [h2]; simp [bindC, bsm, h3]
def fitK (b : HairBook) (plan : List Int) : Bool := b.Hanks.zipIdx.all fun y => !decide (y.1.Weight.Low < cutS b plan 0 (y.2 : Int))
def dyeK (b : HairBook) (plan : List Int) : Bool := b.Horses.zipIdx.all fun y => (dyesF b y.1.Shade ((plan[2 * y.2]?).getD 0) ((plan[2 * y.2 + 1]?).getD 0)).isSome
def worksB (b : HairBook) (plan : List Int) : Bool := fitK b plan && dyeK b plan
theorem eachC_zip {α R : Type} {f : Int → α → Unit → Option (Ctl Unit R)} (p : α × Nat → Bool) (r : R) : ∀ (xs : List α) (i : Nat), (∀ (j : Nat) x, i ≤ j → xs[j - i]? = some x → f (j : Int) x () = some (bif p (x, j) then .next () else .brk r)) → eachC f xs (i : Int) () = some (bif (xs.zipIdx i).all p then .next () else .brk r)
 | [], i, h => rfl
 | x :: xs, i, h => by
  rw [eachC, h i x (Nat.le_refl _) (by simp), bsm, List.zipIdx_cons, List.all_cons]
  cases p (x, i) with
  | false => rfl
  | true =>
   simp only [cond_true, Bool.true_and]
   rw [show (i : Int) + 1 = ((i + 1 : Nat) : Int) by omega]
   exact eachC_zip p r xs (i + 1) (fun j y hj hy => h j y (by omega) (by
    have : j - i = (j - (i + 1)) + 1 := by omega
    rw [this, List.getElem?_cons_succ]; exact hy))
theorem p67 {b : HairBook} (ok : OkH b) {mf : List (Hair_dye × Span)} (hmf : ShOk b mf) {plan : List Int} (hp : PlanOk b plan) : g67 b mf plan = some (worksB b plan) := by
 have h3 := ok.l3
 have h4 := ok.l4
 obtain ⟨w, ew, hw⟩ := p71 ok mf hp
 unfold g67
 rw [ew, bsm]
 have l1 := eachC_zip (f := g67_5 w) (fun y => !decide (y.1.Weight.Low < cutS b plan 0 (y.2 : Int))) false b.Hanks 0 (fun j x hj hx => by
  rw [Nat.sub_zero] at hx
  have hlt := (List.getElem?_eq_some_iff.1 hx).1
  unfold g67_5
  rw [ixN_nat (show j < 5 by omega), bsm, hw]
  cases decide (x.Weight.Low < cutS b plan 0 (j : Int)) <;> rfl)
 have l2 := eachC_zip (f := g67_17 b mf plan) (fun y => (dyesF b y.1.Shade ((plan[2 * y.2]?).getD 0) ((plan[2 * y.2 + 1]?).getD 0)).isSome) false b.Horses 0 (fun j x hj hx => by
  rw [Nat.sub_zero] at hx
  have hlt := (List.getElem?_eq_some_iff.1 hx).1
  have hl := hp.len
  have i1 : 2 * j < plan.length := by omega
  have i2 : 2 * j + 1 < plan.length := by omega
  have r1 := hp.rng _ (List.getElem_mem i1)
  have r2 := hp.rng _ (List.getElem_mem i2)
  have hws := (ok.horses x (List.mem_of_getElem? hx)).2.2
  unfold g67_17 g89
  rw [wr_in (show -9223372036854775808 ≤ 2 * (j : Int) by omega) (by omega), wr_in (show -9223372036854775808 ≤ 2 * (j : Int) + 1 by omega) (by omega), show 2 * (j : Int) = ((2 * j : Nat) : Int) by omega, show ((2 * j : Nat) : Int) + 1 = ((2 * j + 1 : Nat) : Int) by omega,
   ixL_nat, ixL_nat, List.getElem?_eq_getElem i1, List.getElem?_eq_getElem i2]
  simp only [bsm]
  rw [p59 ok hmf (horse := (j : Int)) (p := x) (by rw [ixL_nat]; exact hx) hws (by omega) (by omega) (by omega) (by omega)]
  simp only [bsm, List.getElem?_eq_getElem i1, List.getElem?_eq_getElem i2, Option.getD_some]
  cases dyesF b x.Shade plan[2 * j] plan[2 * j + 1] <;> rfl)
 rw [show ((0 : Nat) : Int) = 0 from rfl] at l1 l2
 rw [l1, l2]
 unfold worksB fitK dyeK
 cases b.Hanks.zipIdx.all (fun y => !decide (y.1.Weight.Low < cutS b plan 0 (y.2 : Int))) with
 | false => rfl
 | true =>
  cases b.Horses.zipIdx.all (fun y => (dyesF b y.1.Shade ((plan[2 * y.2]?).getD 0) ((plan[2 * y.2 + 1]?).getD 0)).isSome) <;> rfl
def worksT (b : HairBook) (plan : List Int) : Bool × Int := bif okH b then (bif planB b plan then (worksB b plan, 0) else (false, 61)) else (false, 60)
theorem p19 (b : HairBook) (plan : List Int) : g19 b plan = some (worksT b plan) := by
 unfold g19 g55a worksT
 rw [p17, bsm]
 cases hok : okH b with
 | false => rfl
 | true =>
  have ok := okH_of hok
  obtain ⟨mf, e80, hmf⟩ := p80 ok
  simp only [cond_true, ne_eq, not_true_eq_false, decide_false, cond_false, e80, bsm, g65, p66 ok]
  cases hp : planB b plan with
  | false => rfl
  | true =>
   simp only [Bool.not_true, cond_false, bsm, ne_eq, not_true_eq_false, decide_false, p67 ok hmf (plan_of hp), cond_true]
def leftT (b : HairBook) (plan : List Int) (hank : Int) : Span × Int := bif okH b then (bif planB b plan && worksB b plan && rg hank 0 ((b.Hanks.length : Int) - 1) then
 (match b.Hanks[hank.toNat]? with | some x => ⟨x.Weight.Low - cutS b plan 0 hank, x.Weight.High - cutS b plan 0 hank⟩ | none => ⟨0, 0⟩, 0) else (⟨0, 0⟩, 61)) else (⟨0, 0⟩, 60)
theorem p21 (b : HairBook) (plan : List Int) (hank : Int) : g21 b plan hank = some (leftT b plan hank) := by
 unfold g21 g55b leftT
 rw [p17, bsm]
 cases hok : okH b with
 | false => rfl
 | true =>
  have ok := okH_of hok
  have h3 := ok.l3
  have h4 := ok.l4
  obtain ⟨mf, e80, hmf⟩ := p80 ok
  have e70 : g70 b mf plan hank = some (planB b plan && worksB b plan && rg hank 0 ((b.Hanks.length : Int) - 1)) := by
   unfold g70
   rw [p66 ok, bsm]
   cases hp : planB b plan with
   | false => rfl
   | true =>
    simp only [cond_true, p67 ok hmf (plan_of hp), p58 ok, bsm, Bool.true_and]
    cases worksB b plan <;> rfl
  simp only [cond_true, ne_eq, not_true_eq_false, decide_false, cond_false, e80, bsm, e70]
  cases hv : planB b plan && worksB b plan && rg hank 0 ((b.Hanks.length : Int) - 1) with
  | false => rfl
  | true =>
   simp only [Bool.and_eq_true, rg_iff] at hv
   obtain ⟨⟨v1, v2⟩, v3⟩ := hv
   have hp := plan_of v1
   have hlen := hp.len
   obtain ⟨w, ew, hw⟩ := p71 ok mf hp
   obtain ⟨k, rfl⟩ : ∃ k : Nat, hank = (k : Int) := ⟨hank.toNat, by omega⟩
   have hlt : k < b.Hanks.length := by omega
   have hc := cutS_bd ok (k : Int) plan 0
   have hwt := (ok.hanks _ (List.getElem_mem hlt)).w
   simp only [Bool.not_true, cond_false, bsm, ne_eq, not_true_eq_false, decide_false, cond_true]
   rw [ixL_nat, List.getElem?_eq_getElem hlt, ew, Int.toNat_natCast, List.getElem?_eq_getElem hlt, ixN_nat (show k < 5 by omega)]
   simp only [bsm]
   rw [hw, wr_in (by omega) (by omega), wr_in (by omega) (by omega)]
def offS (b : HairBook) (plan : List Int) (by_ : Span → Int) : List HairHank → Nat → Int
 | [], _ => 0
 | x :: xs, k => (bif decide (0 < cutS b plan 0 (k : Int)) then by_ x.Weight - cutS b plan 0 (k : Int) else 0) + offS b plan by_ xs (k + 1)
theorem off_loop {b : HairBook} (ok : OkH b) {plan : List Int} (hp : PlanOk b plan) {w : Nat → Int} (hw : ∀ k : Nat, w k = cutS b plan 0 (k : Int)) {f : Int → HairHank → Int → Option Int} {by_ : Span → Int} (hby : ∀ x, x ∈ b.Hanks → 0 ≤ by_ x.Weight ∧ by_ x.Weight ≤ 60)
  (hf : ∀ (k : Nat) (x : HairHank) (n : Int), f (k : Int) x n = (ixN 5 (k : Int)).bind fun j => bif decide (0 < w j) then (some (by_ x.Weight)).bind fun r => (ixN 5 (k : Int)).bind fun j1 => some (wr (n + wr (r - w j1))) else some n) :
  ∀ (xs : List HairHank) (k : Nat) (n c : Int), (∀ x, x ∈ xs → x ∈ b.Hanks) → k + xs.length ≤ 5 → 0 ≤ c → c + 1000 * xs.length ≤ 100000 → -c ≤ n → n ≤ c → eachS f xs (k : Int) n = some (n + offS b plan by_ xs k) ∧ -(1000 * xs.length : Int) ≤ offS b plan by_ xs k ∧ offS b plan by_ xs k ≤ 1000 * xs.length
 | [], k, n, c, hx, hk, h0, hc, h1, h2 => ⟨by simp [eachS, offS], by simp [offS], by simp [offS]⟩
 | x :: xs, k, n, c, hx, hk, h0, hc, h1, h2 => by
  simp only [List.length_cons] at hk hc ⊢
  have h3 := ok.l3
  have hlen := hp.len
  have hcut := cutS_bd ok (k : Int) plan 0
  have hb := hby x (hx x (by simp))
  have hstep : f (k : Int) x n = some (n + (bif decide (0 < cutS b plan 0 (k : Int)) then by_ x.Weight - cutS b plan 0 (k : Int) else 0)) := by
   rw [hf, ixN_nat (show k < 5 by omega), bsm, hw]
   cases decide (0 < cutS b plan 0 (k : Int)) with
   | false => simp
   | true =>
    simp only [cond_true, bsm]
    rw [hw, wr_in (show -9223372036854775808 ≤ by_ x.Weight - cutS b plan 0 (k : Int) by omega) (by omega), wr_in (by omega) (by omega)]
  have hbd : -1000 ≤ (bif decide (0 < cutS b plan 0 (k : Int)) then by_ x.Weight - cutS b plan 0 (k : Int) else 0) ∧ (bif decide (0 < cutS b plan 0 (k : Int)) then by_ x.Weight - cutS b plan 0 (k : Int) else 0) ≤ 1000 := by
   cases decide (0 < cutS b plan 0 (k : Int)) <;> simp only [cond_true, cond_false] <;> omega
  obtain ⟨e, b1, b2⟩ := off_loop ok hp hw hby hf xs (k + 1) _ (c + 1000) (fun y hy => hx y (by simp [hy])) (by omega) (by omega) (by omega) (show -(c + 1000) ≤ n + (bif decide (0 < cutS b plan 0 (k : Int)) then by_ x.Weight - cutS b plan 0 (k : Int) else 0) by omega) (by omega)
  refine ⟨?_, by rw [offS]; omega, by rw [offS]; omega⟩
  rw [eachS, hstep, bsm, show (k : Int) + 1 = ((k + 1 : Nat) : Int) by omega, e, offS, Int.add_assoc]
end Go.Proofs.YtonjadhpjkbhnaaDoor
namespace Go.Proofs.YtonjadhpjkbhnaaDoor
open Go Go.Abs Go.Proofs.Th
theorem offS_zero {b : HairBook} {plan : List Int} {by_ : Span → Int} : ∀ (xs : List HairHank) (k : Nat), (∀ j, k ≤ j → j < k + xs.length → cutS b plan 0 (j : Int) = 0) → offS b plan by_ xs k = 0
 | [], k, h => rfl
 | x :: xs, k, h => by
  rw [offS, h k (Nat.le_refl _) (by simp), offS_zero xs (k + 1) (fun j h1 h2 => h j (by omega) (by simp only [List.length_cons]; omega))]
  simp
theorem p75_core {b : HairBook} (ok : OkH b) {plan : List Int} (hp : PlanOk b plan) {w : Nat → Int} (hw : ∀ k : Nat, w k = cutS b plan 0 (k : Int)) {f : Int → HairHank → Int → Option Int} {by_ : Span → Int} (hby : ∀ x, x ∈ b.Hanks → 0 ≤ by_ x.Weight ∧ by_ x.Weight ≤ 60)
  (hf : ∀ (k : Nat) (x : HairHank) (n : Int), f (k : Int) x n = (ixN 5 (k : Int)).bind fun j => bif decide (0 < w j) then (some (by_ x.Weight)).bind fun r => (ixN 5 (k : Int)).bind fun j1 => some (wr (n + wr (r - w j1))) else some n) :
  (bif (false != (((w 0) == 0) && (((w 1) == 0) && (((w 2) == 0) && (((w 3) == 0) && (((w 4) == 0) && true)))))) then (some 0) else ((eachS f b.Hanks 0 0).bind fun n => some n)) = some (offS b plan by_ b.Hanks 0) := by
 have h4 := ok.l4
 cases hz : (false != (((w 0) == 0) && (((w 1) == 0) && (((w 2) == 0) && (((w 3) == 0) && (((w 4) == 0) && true)))))) with
 | true =>
  simp only [Bool.false_bne, Bool.and_true, Bool.and_eq_true, beq_iff_eq] at hz
  rw [offS_zero]
  ·rfl
  ·intro j h1 h2
   rw [← hw]
   match j, h2 with
   | 0, _ => exact hz.1
   | 1, _ => exact hz.2.1
   | 2, _ => exact hz.2.2.1
   | 3, _ => exact hz.2.2.2.1
   | 4, _ => exact hz.2.2.2.2
   | j + 5, h2 => omega
 | false =>
  obtain ⟨e, _, _⟩ := off_loop ok hp hw hby hf b.Hanks 0 0 0 (fun x hx => hx) (by omega) (by omega) (by omega) (by omega) (by omega)
  rw [show ((0 : Nat) : Int) = 0 from rfl] at e
  rw [e]
  simp [bsm]
def offT (b : HairBook) (plan : List Int) : Span × Int := bif okH b then (bif planB b plan && worksB b plan then (⟨offS b plan (·.Low) b.Hanks 0, offS b plan (·.High) b.Hanks 0⟩, 0) else (⟨0, 0⟩, 61)) else (⟨0, 0⟩, 60)
theorem p23 (b : HairBook) (plan : List Int) : g23 b plan = some (offT b plan) := by
 unfold g23 g55c offT
 rw [p17, bsm]
 cases hok : okH b with
 | false => rfl
 | true =>
  have ok := okH_of hok
  obtain ⟨mf, e80, hmf⟩ := p80 ok
  have e74 : g74 b mf plan = some (planB b plan && worksB b plan) := by
   unfold g74
   rw [p66 ok, bsm]
   cases hp : planB b plan with
   | false => rfl
   | true =>
    simp only [cond_true, p67 ok hmf (plan_of hp), bsm, Bool.true_and]
  simp only [cond_true, ne_eq, not_true_eq_false, decide_false, cond_false, e80, bsm, e74]
  cases hv : planB b plan && worksB b plan with
  | false => rfl
  | true =>
   simp only [Bool.and_eq_true] at hv
   have hp := plan_of hv.1
   obtain ⟨w, ew, hw⟩ := p71 ok mf hp
   have e1 : g75 b mf w = some (offS b plan (·.Low) b.Hanks 0) := p75_core ok hp hw (fun x hx => by have := (ok.hanks x hx).w; omega) (fun k x n => rfl)
   have e2 : g75a b mf w = some (offS b plan (·.High) b.Hanks 0) := p75_core ok hp hw (fun x hx => by have := (ok.hanks x hx).w; omega) (fun k x n => rfl)
   simp only [Bool.not_true, cond_false, bsm, ne_eq, not_true_eq_false, decide_false, cond_true, ew, g76, g77, e1, e2]
end Go.Proofs.YtonjadhpjkbhnaaDoor
namespace Go.Proofs.YtonjadhpjkbhnaaDoor
open Go.Abs Go.Proofs.Th
def fitP (b : HairBook) (by_ : Span → Int) (p : List Int) : Bool := b.Hanks.zipIdx.all fun y => !decide (by_ y.1.Weight < cutS b p 0 (y.2 : Int))
end Go.Proofs.YtonjadhpjkbhnaaDoor
namespace Go.Proofs.YtonjadhpjkbhnaaDoor
open Go.Abs Go.Proofs.Th
theorem while_plan {f : Bool × Int → Option (Ctl (Bool × Int) Bool)} {b : HairBook} {plan : List Int} (h3 : b.Horses.length ≤ 3)
  (h0 : ∀ i, f (false, i) = some (.brk false)) (h1 : f (true, (plan.length : Int)) = some (.brk true))
  (h : ∀ (i : Nat) x, plan[i]? = some x → i < 10 → f (true, (i : Int)) = some (.next (rg x 0 ((b.Hanks.length : Int) - 1), ((i + 1 : Nat) : Int)))) : whileC f 1000 (decide ((plan.length : Int) = 2 * (b.Horses.length : Int)), 0) = some (planB b plan) := by
 unfold planB
 cases hd : decide ((plan.length : Int) = 2 * (b.Horses.length : Int)) with
 | false => rw [whileC, h0]; rfl
 | true =>
  rw [decide_eq_true_eq] at hd
  have := while_all (f := f) (p := fun n => rg n 0 ((b.Hanks.length : Int) - 1)) (xs := plan) (by omega) h0 h1 (fun i x hx => h i x hx (by have := (List.getElem?_eq_some_iff.1 hx).1; omega)) plan.length 0 (by omega) 1000 (by omega)
  simpa using this
end Go.Proofs.YtonjadhpjkbhnaaDoor
namespace Go.Proofs.YtonjadhpjkbhnaaDoor
open Go.Abs Go.Proofs.Th
theorem p18_loop1 (b : HairBook) (hl : b.Hanks.length < 900) (s : Bool) : whileC (g18_15 b) 1000 (s, 0) = some (s && b.Hanks.all okHank) := by
 have h0 : ∀ i, g18_15 b (false, i) = some (.brk false) := fun i => by simp [g18_15, bsm]
 cases s with
 | false => rw [whileC, h0]; rfl
 | true =>
  have := while_all (f := g18_15 b) (p := okHank) (xs := b.Hanks) hl h0 (by simp [g18_15, bsm]) (fun i x hx => by
   have hi : i < b.Hanks.length := (List.getElem?_eq_some_iff.1 hx).1
   simp only [g18_15, cond_true, bsm, ixL_nat, hx, g64, cs, Bool.cond_false_right]
   have : decide ((i : Int) < (b.Hanks.length : Int)) = true := by simp [hi]
   rw [this, wr_nat (by omega)]
   simp only [cond_true]
   congr 3
   unfold okHank okSpan
   simp only [Bool.and_assoc]) b.Hanks.length 0 (by omega) 1000 (by omega)
  simpa using this
theorem p18_loop2 (b : HairBook) (hl : b.Horses.length < 900) (s : Bool) : whileC (g18_31 b) 1000 (s, 0) = some (s && b.Horses.all okHorse) := by
 have h0 : ∀ i, g18_31 b (false, i) = some (.brk false) := fun i => by simp [g18_31, bsm]
 cases s with
 | false => rw [whileC, h0]; rfl
 | true =>
  have := while_all (f := g18_31 b) (p := okHorse) (xs := b.Horses) hl h0 (by simp [g18_31, bsm]) (fun i x hx => by
   have hi : i < b.Horses.length := (List.getElem?_eq_some_iff.1 hx).1
   simp only [g18_31, cond_true, bsm, ixL_nat, hx, p50, cs, Bool.cond_false_right]
   have : decide ((i : Int) < (b.Horses.length : Int)) = true := by simp [hi]
   rw [this, wr_nat (by omega)]
   simp only [cond_true]
   rfl) b.Horses.length 0 (by omega) 1000 (by omega)
  simpa using this
theorem p18 (b : HairBook) : g18 b = some (bif okH b then 0 else 60) := by
 unfold g18
 simp only [p50, bsm, cs, Bool.cond_false_right]
 have hfin : ∀ x : Bool, (bif !x then (some 60 : Option Int) else some 0) = some (bif x then 0 else 60) := by intro x; cases x <;> rfl
 have e1 : whileC (g18_15 b) 1000 (false, 0) = some false := by rw [whileC]; simp [g18_15, bsm]
 have e2 : whileC (g18_31 b) 1000 (false, 0) = some false := by rw [whileC]; simp [g18_31, bsm]
 cases hv : (decide ((b.Hanks.length : Int) ≤ 4) && decide ((b.Horses.length : Int) ≤ 3) && rg b.Dark 0 4 && rg b.Near 0 3 && rg b.Match 0 3) with
 | false =>
  simp only [e1, e2, bsm]
  unfold okH
  rw [hv]; rfl
 | true =>
  have hv' := hv
  simp only [Bool.and_eq_true, decide_eq_true_eq] at hv'
  obtain ⟨⟨⟨⟨q1, q2⟩, _⟩, _⟩, _⟩ := hv'
  rw [p18_loop1 b (by omega)]
  simp only [bsm]
  rw [p18_loop2 b (by omega)]
  simp only [bsm]
  unfold okH
  rw [hv]
  cases true && b.Hanks.all okHank && b.Horses.all okHorse <;> rfl
theorem p61 {b : HairBook} (ok : OkH b) (n : Int) : g61 b n = some (rg n 0 ((b.Hanks.length : Int) - 1)) := by
 have h4 := ok.l4
 unfold g61
 rw [wr_in (by omega) (by omega), p50]; rfl
theorem p60 {b : HairBook} (ok : OkH b) (n : Int) : g60 b n = some (rg n 0 ((b.Horses.length : Int) - 1)) := by
 have h3 := ok.l3
 unfold g60
 rw [wr_in (by omega) (by omega), p50]; rfl
def matS (b : HairBook) (want m t : Int) : Bool := decide (m - want ≤ b.Near) && decide (want - m ≤ b.Near) && (decide (t - want ≤ b.Near) && decide (want - t ≤ b.Near)) && (decide (m - t ≤ b.Match) && decide (t - m ≤ b.Match))
theorem p114 {b : HairBook} {want m t : Int} (h1 : -1000 ≤ want ∧ want ≤ 1000) (h2 : -1000 ≤ m ∧ m ≤ 1000) (h3 : -1000 ≤ t ∧ t ≤ 1000) : g114 b want m t = some (matS b want m t) := by
 have h117 : ∀ u v : Int, -1000 ≤ u ∧ u ≤ 1000 → -1000 ≤ v ∧ v ≤ 1000 → g117 u v = some (max (u - v) (v - u)) := fun u v h1 h2 => by
  unfold g117
  rw [wr_in (by omega) (by omega), wr_in (by omega) (by omega)]
 have hmx : ∀ u v n : Int, decide (max (u - v) (v - u) ≤ n) = (decide (u - v ≤ n) && decide (v - u ≤ n)) := fun u v n => by
  rw [Bool.eq_iff_iff]
  simp only [Bool.and_eq_true, decide_eq_true_eq]
  omega
 unfold g114 matS
 rw [h117 m want h2 h1, h117 t want h3 h1, h117 m t h2 h3]
 simp only [bsm, hmx, cs, Bool.cond_false_right, Bool.and_assoc]
theorem p101 {b : HairBook} (ok : OkH b) {horse mane tail x y : Int} {p : HairHorse} (hp : ixL b.Horses horse = some p) (hw : 0 ≤ p.Shade ∧ p.Shade ≤ 25) (a1 : 0 ≤ mane) (a2 : mane < b.Hanks.length) (b1 : 0 ≤ tail) (b2 : tail < b.Hanks.length) (x1 : 0 ≤ x) (x2 : x ≤ b.Dark) (y1 : 0 ≤ y) (y2 : y ≤ b.Dark) :
  g101 b horse mane tail (arrL [x, y]) = some (mB b p.Shade mane tail x y) := by
 have hd := ok.dark
 have hn := ok.near
 have hma := ok.mat
 have m1 : mane.toNat < b.Hanks.length := by omega
 have t1 : tail.toNat < b.Hanks.length := by omega
 have sm := (ok.hanks _ (List.getElem_mem m1)).s
 have st := (ok.hanks _ (List.getElem_mem t1)).s
 have em : ixL b.Hanks mane = some b.Hanks[mane.toNat] := by
  unfold ixL; rw [decide_eq_true a1, cond_true, List.getElem?_eq_getElem m1]
 have et : ixL b.Hanks tail = some b.Hanks[tail.toNat] := by
  unfold ixL; rw [decide_eq_true b1, cond_true, List.getElem?_eq_getElem t1]
 have hsm : shOf b mane x = ⟨b.Hanks[mane.toNat].Shade.Low + x, b.Hanks[mane.toNat].Shade.High + x⟩ := by
  unfold shOf; rw [List.getElem?_eq_getElem m1]
 have hst : shOf b tail y = ⟨b.Hanks[tail.toNat].Shade.Low + y, b.Hanks[tail.toNat].Shade.High + y⟩ := by
  unfold shOf; rw [List.getElem?_eq_getElem t1]
 have hsame : mane = tail → b.Hanks[mane.toNat] = b.Hanks[tail.toNat] := fun h => by subst h; rfl
 unfold g101
 rw [hp, bsm, em, bsm, et, bsm]
 generalize hM : b.Hanks[mane.toNat] = M at *
 generalize hT : b.Hanks[tail.toNat] = T at *
 rw [must_t (show decide (M.Shade.High + 1 ≤ 9223372036854775807) = true by rw [decide_eq_true_eq]; omega), bsm, must_t (show decide (-9223372036854775808 ≤ M.Shade.Low) = true by rw [decide_eq_true_eq]; omega), bsm]
 have hin : ∀ n, M.Shade.Low ≤ n → n ≤ M.Shade.High → g101_6 b mane tail (arrL [x, y]) p T n () = some (bif !allI (fun m => (decide (mane = tail) && !decide (n = m)) || matS b p.Shade (n + x) (m + y)) (T.Shade.High + 1 - T.Shade.Low).toNat T.Shade.Low then .brk false else .next ()) := fun n n1 n2 => by
  have := forC_firstU (f := g101_10 b mane tail (arrL [x, y]) p n) (fun m => !((decide (mane = tail) && !decide (n = m)) || matS b p.Shade (n + x) (m + y))) (fun _ => (.brk false : Ctl Unit Bool)) (T.Shade.High + 1 - T.Shade.Low).toNat T.Shade.Low (fun m k1 k2 => by
   unfold g101_10
   rw [show arrL [x, y] 0 = x from rfl, show arrL [x, y] 1 = y from rfl, wr_in (show -9223372036854775808 ≤ n + x by omega) (by omega), wr_in (show -9223372036854775808 ≤ m + y by omega) (by omega), p114 (by omega) (by omega) (by omega)]
   by_cases e : mane = tail
   ·by_cases e2 : n = m
    ·rw [decide_eq_true e, decide_eq_true e2]
     cases matS b p.Shade (n + x) (m + y) <;> simp [bsm]
    ·rw [decide_eq_true e, decide_eq_false e2]
     simp [bsm, e]
   ·rw [decide_eq_false e]
    cases matS b p.Shade (n + x) (m + y) <;> simp [bsm, e])
  unfold g101_6
  rw [must_t (show decide (T.Shade.High + 1 ≤ 9223372036854775807) = true by rw [decide_eq_true_eq]; omega), bsm, must_t (show decide (-9223372036854775808 ≤ T.Shade.Low) = true by rw [decide_eq_true_eq]; omega), bsm, this]
  have ha := allI_not (fun m => !((decide (mane = tail) && !decide (n = m)) || matS b p.Shade (n + x) (m + y))) (T.Shade.High + 1 - T.Shade.Low).toNat T.Shade.Low
  simp only [Bool.not_not] at ha
  rw [ha]
  cases firstI (fun m => !((decide (mane = tail) && !decide (n = m)) || matS b p.Shade (n + x) (m + y))) (T.Shade.High + 1 - T.Shade.Low).toNat T.Shade.Low <;> rfl
 have := forC_firstU (f := g101_6 b mane tail (arrL [x, y]) p T) (fun n => !allI (fun m => (decide (mane = tail) && !decide (n = m)) || matS b p.Shade (n + x) (m + y)) (T.Shade.High + 1 - T.Shade.Low).toNat T.Shade.Low) (fun _ => false) (M.Shade.High + 1 - M.Shade.Low).toNat M.Shade.Low (fun n k1 k2 => hin n k1 (by omega))
 rw [this]
 have ha := allI_not (fun n => !allI (fun m => (decide (mane = tail) && !decide (n = m)) || matS b p.Shade (n + x) (m + y)) (T.Shade.High + 1 - T.Shade.Low).toNat T.Shade.Low) (M.Shade.High + 1 - M.Shade.Low).toNat M.Shade.Low
 simp only [Bool.not_not] at ha
 have key : allI (fun n => allI (fun m => (decide (mane = tail) && !decide (n = m)) || matS b p.Shade (n + x) (m + y)) (T.Shade.High + 1 - T.Shade.Low).toNat T.Shade.Low) (M.Shade.High + 1 - M.Shade.Low).toNat M.Shade.Low = mB b p.Shade mane tail x y := by
  rw [Bool.eq_iff_iff, allI_iff]
  unfold mB nearB
  rw [hsm, hst]
  by_cases e : mane = tail
  ·have hMT := hsame e
   subst hMT
   rw [decide_eq_true e]
   simp only [cond_true, Bool.true_and, Bool.and_eq_true, decide_eq_true_eq]
   constructor
   ·intro h
    have h1 := allI_iff.1 (h M.Shade.Low (by omega) (by omega)) M.Shade.Low (by omega) (by omega)
    have h2 := allI_iff.1 (h M.Shade.High (by omega) (by omega)) M.Shade.High (by omega) (by omega)
    simp [matS] at h1 h2
    omega
   ·intro h n n1 n2
    rw [allI_iff]
    intro m k1 k2
    by_cases e2 : n = m
    ·subst e2
     simp [matS]
     omega
    ·simp [e2]
  ·rw [decide_eq_false e]
   simp only [cond_false, Bool.false_and, Bool.false_or, Bool.and_eq_true, decide_eq_true_eq]
   constructor
   ·intro h
    have h1 := allI_iff.1 (h M.Shade.Low (by omega) (by omega)) T.Shade.Low (by omega) (by omega)
    have h2 := allI_iff.1 (h M.Shade.High (by omega) (by omega)) T.Shade.High (by omega) (by omega)
    have h3 := allI_iff.1 (h M.Shade.Low (by omega) (by omega)) T.Shade.High (by omega) (by omega)
    have h4 := allI_iff.1 (h M.Shade.High (by omega) (by omega)) T.Shade.Low (by omega) (by omega)
    simp [matS] at h1 h2 h3 h4
    omega
   ·intro h n n1 n2
    rw [allI_iff]
    intro m k1 k2
    simp [matS]
    omega
 rw [← key, ha]
 cases firstI (fun n => !allI (fun m => (decide (mane = tail) && !decide (n = m)) || matS b p.Shade (n + x) (m + y)) (T.Shade.High + 1 - T.Shade.Low).toNat T.Shade.Low) (M.Shade.High + 1 - M.Shade.Low).toNat M.Shade.Low <;> rfl
theorem p62 {b : HairBook} (ok : OkH b) {horse mane tail : Int} {p : HairHorse} (hp : ixL b.Horses horse = some p) (hw : 0 ≤ p.Shade ∧ p.Shade ≤ 25) (a1 : 0 ≤ mane) (a2 : mane < b.Hanks.length) (b1 : 0 ≤ tail) (b2 : tail < b.Hanks.length) :
  g62 b horse mane tail = some (match dyesF b p.Shade mane tail with | some d => (arrL [d.1, d.2], true) | none => (arrL [0, 0], false)) := by
 have hd := ok.dark
 have em : must (decide (b.Dark + 1 ≤ 9223372036854775807)) = some () := must_t (by rw [decide_eq_true_eq]; omega)
 have := forC_firstU (f := g62_2 b horse mane tail) (fun m => (firstI (fun t => mB b p.Shade mane tail m t) (b.Dark + 1).toNat 0).isSome) (fun m => (arrL [m, (firstI (fun t => mB b p.Shade mane tail m t) (b.Dark + 1).toNat 0).getD 0], true)) (b.Dark + 1).toNat 0 (fun m m1 m2 => by
  have := forC_firstU (f := g62_6 b horse mane tail m) (fun t => mB b p.Shade mane tail m t) (fun t => (.brk (arrL [m, t], true) : Ctl Unit ((Nat → Int) × Bool))) (b.Dark + 1).toNat 0 (fun t t1 t2 => by
   unfold g62_6
   rw [p101 ok hp hw a1 a2 b1 b2 m1 (by omega) t1 (by omega), bsm, cs])
  unfold g62_2
  rw [em, bsm, Int.sub_zero, this]
  cases firstI (fun t => mB b p.Shade mane tail m t) (b.Dark + 1).toNat 0 <;> rfl)
 unfold g62
 rw [em, bsm, Int.sub_zero, this]
 unfold dyesF
 cases firstI (fun m => (firstI (fun t => mB b p.Shade mane tail m t) (b.Dark + 1).toNat 0).isSome) (b.Dark + 1).toNat 0 <;> rfl
theorem p16 (b : HairBook) (horse mane tail : Int) : g16 b horse mane tail = some (dyesT b horse mane tail) := by
 unfold g16 dyesT
 rw [p18, bsm]
 cases hok : okH b with
 | false => rfl
 | true =>
  have ok := okH_of hok
  simp only [cond_true, ne_eq, not_true_eq_false, decide_false, cond_false, p60 ok, p61 ok, bsm]
  cases v1 : rg horse 0 ((b.Horses.length : Int) - 1) with
  | false => rfl
  | true =>
   cases v2 : rg mane 0 ((b.Hanks.length : Int) - 1) with
   | false => rfl
   | true =>
    cases v3 : rg tail 0 ((b.Hanks.length : Int) - 1) with
    | false => rfl
    | true =>
     rw [rg_iff] at v1 v2 v3
     have hlt : horse.toNat < b.Horses.length := by omega
     have hp : ixL b.Horses horse = some b.Horses[horse.toNat] := by
      unfold ixL
      rw [decide_eq_true v1.1, cond_true, List.getElem?_eq_getElem hlt]
     have hw := (ok.horses _ (List.getElem_mem hlt)).2.2
     simp only [Bool.not_true, cond_false, bsm, Bool.and_self, cond_true]
     rw [p62 ok hp hw (by omega) (by omega) (by omega) (by omega), List.getElem?_eq_getElem hlt]
     simp only [bsm]
     cases dyesF b b.Horses[horse.toNat].Shade mane tail <;> rfl
theorem p106_loop {b : HairBook} (ok : OkH b) (hank : Int) : ∀ (ps : List Int) (v : Nat) (n c : Int), v + ps.length ≤ 2 * b.Horses.length → 0 ≤ n → n ≤ c → c + 30 * ps.length ≤ 1000 → eachS (g106_2 b hank) ps (v : Int) n = some (n + cutS b ps v hank)
 | [], v, n, c, hl, h0, h1, h2 => by simp [eachS, cutS]
 | p :: ps, v, n, c, hl, h0, h1, h2 => by
  simp only [List.length_cons] at hl h2
  have h3 := ok.l3
  have hpn := partN_bd ok v
  have hlt : v / 2 < b.Horses.length := by omega
  have hstep : g106_2 b hank (v : Int) p n = some (n + bif decide (p = hank) then partN b v else 0) := by
   unfold g106_2
   rw [tdiv_nat, tmod_nat, wr_in (by omega) (by omega), ixL_nat, List.getElem?_eq_getElem hlt, bsm]
   unfold partN at hpn ⊢
   rw [List.getElem?_eq_getElem hlt] at hpn ⊢
   simp only at hpn ⊢
   by_cases e : p = hank
   ·rw [decide_eq_true e]
    have hm : v % 2 = 0 ∨ v % 2 = 1 := by omega
    rcases hm with hm | hm
    ·rw [hm] at hpn ⊢
     simp at hpn ⊢
     exact wr_in (by omega) (by omega)
    ·rw [hm] at hpn ⊢
     simp at hpn ⊢
     exact wr_in (by omega) (by omega)
   ·rw [decide_eq_false e]
    simp [bsm]
  have hb : 0 ≤ (bif decide (p = hank) then partN b v else 0) ∧ (bif decide (p = hank) then partN b v else 0) ≤ 30 := by
   cases decide (p = hank) <;> simp only [cond_true, cond_false] <;> omega
  rw [eachS, hstep, bsm, show (v : Int) + 1 = ((v + 1 : Nat) : Int) by omega, p106_loop ok hank ps (v + 1) _ (c + 30) (by omega) (by omega) (by omega) (by omega), cutS, Int.add_assoc]
theorem p106 {b : HairBook} (ok : OkH b) {plan : List Int} (hl : plan.length ≤ 2 * b.Horses.length) (hank : Int) : g106 b plan hank = some (cutS b plan 0 hank) := by
 have h3 := ok.l3
 have := p106_loop ok hank plan 0 0 0 (by omega) (by omega) (by omega) (by omega)
 rw [show ((0 : Nat) : Int) = 0 from rfl] at this
 unfold g106
 rw [this, bsm, Int.zero_add]
theorem p104 {b : HairBook} (ok : OkH b) {plan : List Int} (hl : plan.length ≤ 2 * b.Horses.length) : g104 b plan false = some (fitP b (·.Low) plan) := by
 have := eachC_zip (f := g104_2 b plan false) (fun y => !decide (y.1.Weight.Low < cutS b plan 0 (y.2 : Int))) false b.Hanks 0 (fun j x hj hx => by
  unfold g104_2
  rw [p106 ok hl]
  simp only [cond_false, bsm]
  cases decide (x.Weight.Low < cutS b plan 0 (j : Int)) <;> rfl)
 rw [show ((0 : Nat) : Int) = 0 from rfl] at this
 unfold g104
 rw [this]
 unfold fitP
 cases b.Hanks.zipIdx.all fun y => !decide (y.1.Weight.Low < cutS b plan 0 (y.2 : Int)) <;> rfl
theorem p68 {b : HairBook} (ok : OkH b) (plan : List Int) : g68 b plan = some (planB b plan) := by
 have h3 := ok.l3
 unfold g68
 rw [wr_in (by omega) (by omega), while_plan (f := g68_4 b plan) ok.l3 (fun i => by simp [g68_4, bsm]) (by simp [g68_4, bsm]) (fun i x hx hi => by
  have hl := (List.getElem?_eq_some_iff.1 hx).1
  simp only [g68_4, cond_true, bsm, ixL_nat, hx, p61 ok]
  rw [decide_eq_true (show (i : Int) < (plan.length : Int) by omega), wr_nat (by omega)]
  rfl)]
 rfl
theorem p69 {b : HairBook} (ok : OkH b) {plan : List Int} (hp : PlanOk b plan) : g69 b plan = some (worksB b plan) := by
 have h3 := ok.l3
 have hl := hp.len
 have l2 := eachC_zip (f := g69_2 b plan) (fun y => (dyesF b y.1.Shade ((plan[2 * y.2]?).getD 0) ((plan[2 * y.2 + 1]?).getD 0)).isSome) false b.Horses 0 (fun j x hj hx => by
  rw [Nat.sub_zero] at hx
  have hlt := (List.getElem?_eq_some_iff.1 hx).1
  have i1 : 2 * j < plan.length := by omega
  have i2 : 2 * j + 1 < plan.length := by omega
  have r1 := hp.rng _ (List.getElem_mem i1)
  have r2 := hp.rng _ (List.getElem_mem i2)
  have hws := (ok.horses x (List.mem_of_getElem? hx)).2.2
  unfold g69_2
  rw [wr_in (show -9223372036854775808 ≤ 2 * (j : Int) by omega) (by omega), wr_in (show -9223372036854775808 ≤ 2 * (j : Int) + 1 by omega) (by omega), show 2 * (j : Int) = ((2 * j : Nat) : Int) by omega, show ((2 * j : Nat) : Int) + 1 = ((2 * j + 1 : Nat) : Int) by omega,
   ixL_nat, ixL_nat, List.getElem?_eq_getElem i1, List.getElem?_eq_getElem i2]
  simp only [bsm]
  rw [p62 ok (horse := (j : Int)) (p := x) (by rw [ixL_nat]; exact hx) hws (by omega) (by omega) (by omega) (by omega)]
  simp only [bsm, List.getElem?_eq_getElem i1, List.getElem?_eq_getElem i2, Option.getD_some]
  cases dyesF b x.Shade plan[2 * j] plan[2 * j + 1] <;> rfl)
 rw [show ((0 : Nat) : Int) = 0 from rfl] at l2
 unfold g69
 rw [l2, p104 ok (by omega)]
 unfold worksB dyeK
 rw [show fitP b (·.Low) plan = fitK b plan from rfl]
 cases b.Horses.zipIdx.all (fun y => (dyesF b y.1.Shade ((plan[2 * y.2]?).getD 0) ((plan[2 * y.2 + 1]?).getD 0)).isSome) with
 | false => simp [bindC]
 | true => simp [bindC, bsm]
theorem p20 (b : HairBook) (plan : List Int) : g20 b plan = some (worksT b plan) := by
 unfold g20 worksT
 rw [p18, bsm]
 cases hok : okH b with
 | false => rfl
 | true =>
  have ok := okH_of hok
  simp only [cond_true, ne_eq, not_true_eq_false, decide_false, cond_false, p68 ok, bsm]
  cases hp : planB b plan with
  | false => rfl
  | true => simp only [Bool.not_true, cond_false, p69 ok (plan_of hp), bsm, cond_true]
theorem p72 {b : HairBook} (plan : List Int) (s : Bool) : g72 b plan s = some (bif okH b then (bif s && (planB b plan && worksB b plan) then 0 else 61) else 60) := by
 unfold g72
 rw [p18, bsm]
 cases hok : okH b with
 | false => rfl
 | true =>
  have ok := okH_of hok
  simp only [cond_true, ne_eq, not_true_eq_false, decide_false, cond_false]
  cases s with
  | false => rfl
  | true =>
   simp only [Bool.not_true, cond_false, p68 ok, bsm, Bool.true_and]
   cases hp : planB b plan with
   | false => rfl
   | true =>
    simp only [Bool.not_true, cond_false, p69 ok (plan_of hp), bsm, Bool.true_and]
    cases worksB b plan <;> rfl
theorem p73 {b : HairBook} (ok : OkH b) {plan : List Int} (hl : plan.length ≤ 2 * b.Horses.length) {k : Nat} {x : HairHank} (hx : b.Hanks[k]? = some x) : g73 b plan (k : Int) = some ⟨x.Weight.Low - cutS b plan 0 (k : Int), x.Weight.High - cutS b plan 0 (k : Int)⟩ := by
 have h3 := ok.l3
 have hc := cutS_bd ok (k : Int) plan 0
 have hwt := (ok.hanks x (List.mem_of_getElem? hx)).w
 unfold g73
 rw [p106 ok hl, bsm, ixL_nat, hx, bsm, wr_in (by omega) (by omega), wr_in (by omega) (by omega)]
 rfl
theorem p22 (b : HairBook) (plan : List Int) (hank : Int) : g22 b plan hank = some (leftT b plan hank) := by
 unfold g22 leftT
 cases hok : okH b with
 | false =>
  unfold g61
  simp only [p50, bsm, p72, hok, cond_false, ne_eq]
  rfl
 | true =>
  have ok := okH_of hok
  simp only [p61 ok, bsm, p72, hok, cond_true]
  rw [show (planB b plan && worksB b plan && rg hank 0 ((b.Hanks.length : Int) - 1)) = (rg hank 0 ((b.Hanks.length : Int) - 1) && (planB b plan && worksB b plan)) from Bool.and_comm _ _]
  cases hv : rg hank 0 ((b.Hanks.length : Int) - 1) && (planB b plan && worksB b plan) with
  | false => rfl
  | true =>
   simp only [Bool.and_eq_true, rg_iff] at hv
   obtain ⟨v1, v2, v3⟩ := hv
   have hp := plan_of v2
   have hl := hp.len
   obtain ⟨k, rfl⟩ : ∃ k : Nat, hank = (k : Int) := ⟨hank.toNat, by omega⟩
   have hlt : k < b.Hanks.length := by omega
   simp only [cond_true, ne_eq, not_true_eq_false, decide_false, cond_false]
   rw [p73 ok (by omega) (List.getElem?_eq_getElem hlt), Int.toNat_natCast, List.getElem?_eq_getElem hlt]
   rfl
theorem p96_loop (n : Int) : ∀ (l : List Int) (i : Int), 0 ≤ i → ∃ c, eachC (g96_2 n) l i () = some c ∧ ((n ∈ l ∧ ∃ j, c = .brk j ∧ 0 ≤ j) ∨ (¬ n ∈ l ∧ c = .next ()))
 | [], i, h => ⟨_, rfl, .inr ⟨by simp, rfl⟩⟩
 | x :: l, i, h => by
  rw [eachC]
  by_cases e : x = n
  ·refine ⟨.brk i, ?_, .inl ⟨by simp [e], i, rfl, h⟩⟩
   simp [g96_2, e, bsm]
  ·obtain ⟨c, h1, h2⟩ := p96_loop n l (i + 1) (by omega)
   refine ⟨c, ?_, ?_⟩
   ·simpa [g96_2, e, bsm] using h1
   ·have : n ∈ x :: l ↔ n ∈ l := by simp [show ¬ n = x from fun h => e h.symm]
    rw [this]; exact h2
theorem p96 (l : List Int) (n : Int) : ∃ j, g96 l n = some j ∧ (0 ≤ j ↔ n ∈ l) := by
 obtain ⟨c, h1, h2⟩ := p96_loop n l 0 (by omega)
 unfold g96
 rw [h1]
 rcases h2 with ⟨h2, j, rfl, h3⟩ | ⟨h2, rfl⟩
 ·exact ⟨j, rfl, fun _ => h2, fun _ => h3⟩
 ·exact ⟨-1, rfl, fun h => by omega, fun h => absurd h h2⟩
theorem partN_pos {b : HairBook} (ok : OkH b) {v : Nat} (h : v < 2 * b.Horses.length) : 1 ≤ partN b v := by
 have hlt : v / 2 < b.Horses.length := by omega
 have hx := ok.horses _ (List.getElem_mem hlt)
 unfold partN
 rw [List.getElem?_eq_getElem hlt]
 simp only
 cases decide (v % 2 = 0) <;> simp only [cond_true, cond_false] <;> omega
theorem cutS_pos {b : HairBook} (ok : OkH b) (k : Int) : ∀ (ps : List Int) (v : Nat), v + ps.length ≤ 2 * b.Horses.length → (0 < cutS b ps v k ↔ k ∈ ps)
 | [], v, h => by simp [cutS]
 | p :: ps, v, h => by
  simp only [List.length_cons] at h
  have h1 := partN_pos ok (show v < 2 * b.Horses.length by omega)
  have h2 := cutS_bd ok k ps (v + 1)
  have ih := cutS_pos ok k ps (v + 1) (by omega)
  rw [cutS, List.mem_cons]
  by_cases e : p = k
  ·rw [decide_eq_true e, cond_true]
   exact ⟨fun _ => .inl e.symm, fun _ => by omega⟩
  ·rw [decide_eq_false e, cond_false, Int.zero_add, ih]
   exact ⟨fun h => .inr h, fun h => h.resolve_left fun h => e h.symm⟩
theorem p78_loop {b : HairBook} (ok : OkH b) {plan : List Int} (hl : plan.length ≤ 2 * b.Horses.length) : ∀ (xs : List HairHank) (k : Nat) (lo hi c : Int), (∀ j x, xs[j]? = some x → b.Hanks[k + j]? = some x) → -c ≤ lo → lo ≤ c → -c ≤ hi → hi ≤ c → c + 1000 * xs.length ≤ 100000 → 0 ≤ c →
  eachS (g78_4 b plan) xs (k : Int) (lo, hi) = some (lo + offS b plan (·.Low) xs k, hi + offS b plan (·.High) xs k)
 | [], k, lo, hi, c, hx, h1, h2, h3, h4, h5, h6 => by simp [eachS, offS]
 | x :: xs, k, lo, hi, c, hx, h1, h2, h3, h4, h5, h6 => by
  simp only [List.length_cons] at h5
  have hH := ok.l3
  have hk := hx 0 x (by simp)
  rw [Nat.add_zero] at hk
  have hcut := cutS_bd ok (k : Int) plan 0
  have hwt := (ok.hanks x (List.mem_of_getElem? hk)).w
  have hpos := cutS_pos ok (k : Int) plan 0 (by omega)
  obtain ⟨j, ej, hj⟩ := p96 plan (k : Int)
  have hstep : g78_4 b plan (k : Int) x (lo, hi) = some (lo + (bif decide (0 < cutS b plan 0 (k : Int)) then x.Weight.Low - cutS b plan 0 (k : Int) else 0), hi + (bif decide (0 < cutS b plan 0 (k : Int)) then x.Weight.High - cutS b plan 0 (k : Int) else 0)) := by
   unfold g78_4
   simp only
   rw [ej, bsm]
   by_cases h : (k : Int) ∈ plan
   ·rw [decide_eq_true (hj.2 h), decide_eq_true (hpos.2 h)]
    simp only [cond_true]
    rw [p73 ok hl hk]
    simp only [bsm, g42, g44]
    rw [wr_in (by omega) (by omega), wr_in (by omega) (by omega)]
   ·rw [decide_eq_false (fun hc => h (hj.1 hc)), decide_eq_false (fun hc => h (hpos.1 hc))]
    simp
  have bl : -1000 ≤ (bif decide (0 < cutS b plan 0 (k : Int)) then x.Weight.Low - cutS b plan 0 (k : Int) else 0) ∧ (bif decide (0 < cutS b plan 0 (k : Int)) then x.Weight.Low - cutS b plan 0 (k : Int) else 0) ≤ 1000 ∧ -1000 ≤ (bif decide (0 < cutS b plan 0 (k : Int)) then x.Weight.High - cutS b plan 0 (k : Int) else 0) ∧ (bif decide (0 < cutS b plan 0 (k : Int)) then x.Weight.High - cutS b plan 0 (k : Int) else 0) ≤ 1000 := by
   cases decide (0 < cutS b plan 0 (k : Int)) <;> simp only [cond_true, cond_false] <;> omega
  have ih := p78_loop ok hl xs (k + 1) (lo + (bif decide (0 < cutS b plan 0 (k : Int)) then x.Weight.Low - cutS b plan 0 (k : Int) else 0)) (hi + (bif decide (0 < cutS b plan 0 (k : Int)) then x.Weight.High - cutS b plan 0 (k : Int) else 0)) (c + 1000) (fun j y hy => by
   have := hx (j + 1) y (by rw [List.getElem?_cons_succ]; exact hy)
   rw [show k + 1 + j = k + (j + 1) by omega]; exact this) (by omega) (by omega) (by omega) (by omega) (by omega) (by omega)
  rw [eachS, hstep, bsm, show (k : Int) + 1 = ((k + 1 : Nat) : Int) by omega, ih, offS, offS]
  simp only [Int.add_assoc]
theorem p78 {b : HairBook} (ok : OkH b) {plan : List Int} (hl : plan.length ≤ 2 * b.Horses.length) : g78 b plan = some ⟨offS b plan (·.Low) b.Hanks 0, offS b plan (·.High) b.Hanks 0⟩ := by
 have h4 := ok.l4
 have := p78_loop ok hl b.Hanks 0 0 0 0 (fun j x h => by rw [Nat.zero_add]; exact h) (by omega) (by omega) (by omega) (by omega) (by omega) (by omega)
 rw [show ((0 : Nat) : Int) = 0 from rfl] at this
 unfold g78
 simp only [g40, bsm]
 rw [this]
 simp [bsm]
theorem p24 (b : HairBook) (plan : List Int) : g24 b plan = some (offT b plan) := by
 unfold g24 offT
 rw [p72, bsm]
 cases hok : okH b with
 | false => rfl
 | true =>
  simp only [cond_true, Bool.true_and]
  cases hv : planB b plan && worksB b plan with
  | false => rfl
  | true =>
   rw [Bool.and_eq_true] at hv
   have hl := (plan_of hv.1).len
   simp only [cond_true, ne_eq, not_true_eq_false, decide_false, cond_false]
   rw [p78 (okH_of hok) (by omega)]
   rfl
theorem plain3 (b : HairBook) (plan : List Int) (n : Nat → Int) : g3 b plan n = some true := by
 unfold g3
 rw [p15, p16]
 simp only [bsm, ne_eq, not_true_eq_false, decide_false, cond_false, p17, p18, p19, p20, p21, p22, p23, p24, bindC, BEq.rfl, bne_self_eq_false, Bool.or_self, decide_true, matched_ok, cond_true]
 simp [matched_ok, bsm]
end Go.Proofs.YtonjadhpjkbhnaaDoor
