/- Plain laws. Conditions: none. -/
import Derived.Test.YtonjadhpjkbhnaaDoorAr
set_option linter.unusedVariables false
set_option linter.unusedSimpArgs false
namespace Go.Proofs.YtonjadhpjkbhnaaDoor
open Go.Abs Go.Proofs.Th
theorem matched_ok : g25 = some true := by kernel_rfl
end Go.Proofs.YtonjadhpjkbhnaaDoor
namespace Go.Proofs.YtonjadhpjkbhnaaDoor
open Go.Abs Go.Proofs.Th
theorem cs {α : Type} (c : Bool) (a b : α) : (bif c then some a else some b) = some (bif c then a else b) := by cases c <;> rfl
theorem bsm {α β : Type} (a : α) (f : α → Option β) : (some a).bind f = f a := rfl
theorem eachS_all {α : Type} {f : Int → α → Bool → Option Bool} {p : α → Bool} (h : ∀ i x s, f i x s = some (s && p x)) : ∀ (xs : List α) (i : Int) (s : Bool), eachS f xs i s = some (s && xs.all p)
 | [], i, s => by simp [eachS]
 | x :: xs, i, s => by rw [eachS, h, bsm, eachS_all h xs]; simp [Bool.and_assoc]
def rg (n a b : Int) : Bool := decide (a ≤ n) && decide (n ≤ b)
theorem while_all {α : Type} {f : Bool × Int → Option (Ctl (Bool × Int) Bool)} {p : α → Bool} {xs : List α} (hl : xs.length < 900)
  (h0 : ∀ i, f (false, i) = some (.brk false)) (h1 : f (true, (xs.length : Int)) = some (.brk true))
  (h : ∀ (i : Nat) x, xs[i]? = some x → f (true, (i : Int)) = some (.next (p x, ((i + 1 : Nat) : Int)))) :
  ∀ (n i : Nat), i + n = xs.length → ∀ k, n + 2 ≤ k → whileC f k (true, (i : Int)) = some ((xs.drop i).all p)
 | 0, i, hi, k, hk => by
  obtain ⟨k, rfl⟩ : ∃ k', k = k' + 1 := ⟨k - 1, by omega⟩
  have : i = xs.length := by omega
  subst this
  rw [whileC, h1]; simp
 | n + 1, i, hi, k, hk => by
  obtain ⟨k, rfl⟩ : ∃ k', k = k' + 1 := ⟨k - 1, by omega⟩
  have hlt : i < xs.length := by omega
  rw [whileC, h i _ (List.getElem?_eq_getElem hlt), bsm, List.drop_eq_getElem_cons hlt, List.all_cons]
  cases hp : p xs[i] with
  | false =>
   obtain ⟨k, rfl⟩ : ∃ k', k = k' + 1 := ⟨k - 1, by omega⟩
   simp only; rw [whileC, h0]; rfl
  | true => simp only; rw [while_all hl h0 h1 h n (i + 1) (by omega) k (by omega)]; simp
theorem wr_nat {i : Nat} (h : i < 1000) : wr ((i : Int) + 1) = ((i + 1 : Nat) : Int) := by rw [wr_in (by omega) (by omega)]; simp
theorem ixL_nat {α : Type} (xs : List α) (i : Nat) : ixL xs (i : Int) = xs[i]? := by
 unfold ixL
 have : decide (0 ≤ (i : Int)) = true := by simp
 rw [this]; simp
def Bd (a x : Int) : Prop := -a ≤ x ∧ x ≤ a
theorem Bd.mul {a b x y : Int} (hx : Bd a x) (hy : Bd b y) : Bd (a * b) (x * y) := by
 have h1 : x.natAbs ≤ a.natAbs := by obtain ⟨h, k⟩ := hx; omega
 have h2 : y.natAbs ≤ b.natAbs := by obtain ⟨h, k⟩ := hy; omega
 have h3 := Nat.mul_le_mul h1 h2
 rw [← Int.natAbs_mul, ← Int.natAbs_mul] at h3
 have ha : 0 ≤ a := by obtain ⟨h, k⟩ := hx; omega
 have hb : 0 ≤ b := by obtain ⟨h, k⟩ := hy; omega
 have := Int.mul_nonneg ha hb
 constructor <;> omega
theorem Bd.add {a b x y : Int} (hx : Bd a x) (hy : Bd b y) : Bd (a + b) (x + y) := by obtain ⟨h, k⟩ := hx; obtain ⟨h', k'⟩ := hy; constructor <;> omega
theorem Bd.sub {a b x y : Int} (hx : Bd a x) (hy : Bd b y) : Bd (a + b) (x - y) := by obtain ⟨h, k⟩ := hx; obtain ⟨h', k'⟩ := hy; constructor <;> omega
theorem Bd.mono {a b x : Int} (hx : Bd a x) (h : a ≤ b) : Bd b x := by obtain ⟨h, k⟩ := hx; constructor <;> omega
theorem rg_iff {n a c : Int} : rg n a c = true ↔ a ≤ n ∧ n ≤ c := by simp [rg]
theorem must_t {x : Bool} (h : x = true) : must x = some () := by subst h; rfl
def firstI (p : Int → Bool) : Nat → Int → Option Int
 | 0, _ => none
 | n + 1, i => bif p i then some i else firstI p n (i + 1)
theorem forC_first {S R : Type} {f : Int → S → Option (Ctl S R)} (I : S → Prop) (p : Int → Bool) (r : Int → R) : ∀ (n : Nat) (i : Int) (s : S), I s →
  (∀ j s, i ≤ j → j < i + n → I s → ∃ s', I s' ∧ f j s = some (bif p j then .brk (r j) else .next s')) →
  ∃ s', I s' ∧ forC f n i s = some (match firstI p n i with | some j => .brk (r j) | none => .next s')
 | 0, i, s, hs, h => ⟨s, hs, rfl⟩
 | n + 1, i, s, hs, h => by
  obtain ⟨s1, h1, e1⟩ := h i s (by omega) (by omega) hs
  rw [forC, e1, bsm, firstI]
  cases p i with
  | true => exact ⟨s1, h1, rfl⟩
  | false => exact forC_first I p r n (i + 1) s1 h1 (fun j s k1 k2 => h j s (by omega) (by omega))
theorem forC_firstU {R : Type} {f : Int → Unit → Option (Ctl Unit R)} (p : Int → Bool) (r : Int → R) (n : Nat) (i : Int) (h : ∀ j, i ≤ j → j < i + n → f j () = some (bif p j then .brk (r j) else .next ())) :
  forC f n i () = some (match firstI p n i with | some j => .brk (r j) | none => .next ()) := by
 obtain ⟨s, _, e⟩ := forC_first (fun _ => True) p r n i () trivial (fun j s h1 h2 _ => ⟨(), trivial, h j h1 h2⟩)
 exact e
theorem roomB_ok {n b : Nat} (h : n * b ≤ 140737488355328) : roomB n b = true := Nat.ble_eq_true_of_le h
theorem appL_ok {α : Type} {sz : Nat} {l m : List α} (h : (l ++ m).length * sz ≤ 140737488355328) : appL sz l m = some (l ++ m) := by
 unfold appL
 rw [roomB_ok h]; rfl
theorem slcL_all {α : Type} (l : List α) : slcL l 0 (l.length : Int) = some l := by
 unfold slcL
 have : (decide ((0 : Int) ≤ 0) && (decide ((0 : Int) ≤ (l.length : Int)) && decide ((l.length : Int) ≤ (l.length : Int)))) = true := by simp
 rw [this]; simp
theorem forS_inv {S : Type} {f : Int → S → Option S} (I : Int → S → Prop) : ∀ (n : Nat) (i : Int) (s : S), I i s → (∀ j s, i ≤ j → j < i + n → I j s → ∃ s', f j s = some s' ∧ I (j + 1) s') → ∃ s', forS f n i s = some s' ∧ I (i + n) s'
 | 0, i, s, hs, h => ⟨s, rfl, by simpa using hs⟩
 | n + 1, i, s, hs, h => by
  obtain ⟨s1, e1, h1⟩ := h i s (by omega) (by omega) hs
  obtain ⟨s2, e2, h2⟩ := forS_inv I n (i + 1) s1 h1 (fun j s k1 k2 => h j s (by omega) (by omega))
  refine ⟨s2, by rw [forS, e1, bsm, e2], ?_⟩
  rw [show i + ((n + 1 : Nat) : Int) = i + 1 + (n : Int) by omega]
  exact h2
theorem ixN_nat {n i : Nat} (h : i < n) : ixN n (i : Int) = some i := by
 unfold ixN
 have : (decide (0 ≤ (i : Int)) && Nat.blt (i : Int).toNat n) = true := by simp [h, Nat.blt_eq]
 rw [this]; simp
theorem mfd_append {K W : Type} (q : K → K → Bool) (k k' : K) (w : W) : ∀ (m : List (K × W)) (i : Nat), (mfd q k (m ++ [(k', w)]) i).map (·.2) = match (mfd q k m i).map (·.2) with
  | some v => some v
  | none => bif q k k' then some w else none
 | [], i => by
  simp only [List.nil_append, mfd]
  cases q k k' <;> rfl
 | p :: m, i => by
  simp only [List.cons_append, mfd]
  cases q k p.1 with
  | true => rfl
  | false => simp only [cond_false]; exact mfd_append q k k' w m (i + 1)
theorem mget_append {K W : Type} (q : K → K → Bool) (m : List (K × W)) (k k' : K) (w : W) : mget q (m ++ [(k', w)]) k = match mget q m k with
  | some v => some v
  | none => bif q k k' then some w else none := mfd_append q k k' w m 0
end Go.Proofs.YtonjadhpjkbhnaaDoor
namespace Go.Proofs.YtonjadhpjkbhnaaDoor
open Go.Abs Go.Proofs.Th
def okSpan (s : Span) (a c w : Int) : Bool := decide (a ≤ s.Low) && decide (s.Low ≤ s.High) && decide (s.High ≤ c) && decide (wr (s.High - s.Low) ≤ w)
def okHank (x : HairHank) : Bool := okSpan x.Weight 1 60 4 && okSpan x.Shade 0 20 2
def okHorse (x : HairHorse) : Bool := rg x.Mane 1 30 && rg x.Tail 1 30 && rg x.Shade 0 25
def okH (b : HairBook) : Bool := decide ((b.Hanks.length : Int) ≤ 4) && decide ((b.Horses.length : Int) ≤ 3) && rg b.Dark 0 4 && rg b.Near 0 3 && rg b.Match 0 3 && b.Hanks.all okHank && b.Horses.all okHorse
theorem p57 (n a c : Int) : g57 n a c = some (rg n a c) := rfl
theorem p63 (s : Span) (a c w : Int) : g63 s a c w = some (okSpan s a c w) := rfl
theorem p17_15 (i : Int) (x : HairHank) (s : Bool) : g17_15 i x s = some (s && okHank x) := by
 simp only [g17_15, p63, bsm, cs, okHank, Bool.cond_false_right, Bool.and_assoc]
theorem p17_31 (i : Int) (x : HairHorse) (s : Bool) : g17_31 i x s = some (s && okHorse x) := by
 simp only [g17_31, p57, bsm, cs, okHorse, Bool.cond_false_right, Bool.and_assoc]
theorem p17 (b : HairBook) : g17 b = some (bif okH b then 0 else 60) := by
 unfold g17
 simp only [p57, bsm, cs, Bool.cond_false_right, eachS_all p17_15, eachS_all p17_31]
 have : ∀ x : Bool, (bif !x then (60 : Int) else 0) = bif x then 0 else 60 := by intro x; cases x <;> rfl
 rw [this]
 simp only [okH, Bool.and_assoc]
structure HankOk (x : HairHank) : Prop where
 w : 1 ≤ x.Weight.Low ∧ x.Weight.Low ≤ x.Weight.High ∧ x.Weight.High ≤ 60
 s : 0 ≤ x.Shade.Low ∧ x.Shade.Low ≤ x.Shade.High ∧ x.Shade.High ≤ 20
structure OkH (b : HairBook) : Prop where
 l4 : b.Hanks.length ≤ 5
 l3 : b.Horses.length ≤ 3
 dark : 0 ≤ b.Dark ∧ b.Dark ≤ 4
 near : 0 ≤ b.Near ∧ b.Near ≤ 3
 mat : 0 ≤ b.Match ∧ b.Match ≤ 3
 hanks : ∀ x, x ∈ b.Hanks → HankOk x
 horses : ∀ x, x ∈ b.Horses → (1 ≤ x.Mane ∧ x.Mane ≤ 30) ∧ (1 ≤ x.Tail ∧ x.Tail ≤ 30) ∧ 0 ≤ x.Shade ∧ x.Shade ≤ 25
theorem okH_of {b : HairBook} (h : okH b = true) : OkH b := by
 simp only [okH, Bool.and_eq_true, rg_iff, decide_eq_true_eq, List.all_eq_true] at h
 obtain ⟨⟨⟨⟨⟨⟨h1, h2⟩, h3⟩, h4⟩, h5⟩, h6⟩, h7⟩ := h
 refine ⟨by omega, by omega, h3, h4, h5, fun x hx => ?_, fun x hx => ?_⟩
 ·have := h6 x hx
  simp only [okHank, okSpan, Bool.and_eq_true, decide_eq_true_eq] at this
  exact ⟨by omega, by omega⟩
 ·have := h7 x hx
  simp only [okHorse, Bool.and_eq_true, rg_iff] at this
  omega
theorem okH_l4 {b : HairBook} (h : okH b = true) : b.Hanks.length ≤ 4 := by
 simp only [okH, Bool.and_eq_true, decide_eq_true_eq] at h
 omega
theorem q84_iff (x y : Hair_dye) : q84 x y = true ↔ x = y := by
 cases x; cases y
 simp [q84]
def shOf (b : HairBook) (h n : Int) : Span := match b.Hanks[h.toNat]? with
 | some x => ⟨x.Shade.Low + n, x.Shade.High + n⟩
 | none => ⟨0, 0⟩
def ShK (b : HairBook) (k j : Int) (m : List (Hair_dye × Span)) : Prop := ∀ h n, mget q84 m ⟨h, n⟩ = bif (decide (0 ≤ h) && decide (h < k) && decide (0 ≤ n) && decide (n ≤ b.Dark)) || (decide (h = k) && decide (0 ≤ n) && decide (n < j)) then some (shOf b h n) else none
theorem eachS_inv {α S : Type} {f : Int → α → S → Option S} (I : Nat → S → Prop) : ∀ (xs : List α) (i : Nat) (s : S), I i s → (∀ j x s, i ≤ j → xs[j - i]? = some x → I j s → ∃ s', f (j : Int) x s = some s' ∧ I (j + 1) s') → ∃ s', eachS f xs (i : Int) s = some s' ∧ I (i + xs.length) s'
 | [], i, s, hs, h => ⟨s, rfl, by simpa using hs⟩
 | x :: xs, i, s, hs, h => by
  obtain ⟨s1, e1, h1⟩ := h i x s (Nat.le_refl _) (by simp) hs
  obtain ⟨s2, e2, h2⟩ := eachS_inv I xs (i + 1) s1 h1 (fun j y s hj hy hI => h j y s (by omega) (by
   have : j - i = (j - (i + 1)) + 1 := by omega
   rw [this, List.getElem?_cons_succ]; exact hy) hI)
  refine ⟨s2, ?_, ?_⟩
  ·rw [eachS, e1, bsm, show (i : Int) + 1 = ((i + 1 : Nat) : Int) by omega, e2]
  ·rw [List.length_cons, show i + (xs.length + 1) = i + 1 + xs.length by omega]; exact h2
theorem p80_8 {b : HairBook} (ok : OkH b) {k : Nat} {x : HairHank} (hx : b.Hanks[k]? = some x) {j : Int} (h0 : 0 ≤ j) (h1 : j ≤ b.Dark) {m : List (Hair_dye × Span)} (hm : ShK b k j m) : ∃ m', g80_8 (k : Int) x j m = some m' ∧ ShK b k (j + 1) m' := by
 have hd := ok.dark
 have hs := (ok.hanks x (List.mem_of_getElem? hx)).s
 have hnone : mget q84 m ⟨(k : Int), j⟩ = none := by
  rw [hm]
  have : ((decide (0 ≤ (k : Int)) && decide ((k : Int) < (k : Int)) && decide (0 ≤ j) && decide (j ≤ b.Dark)) || (decide ((k : Int) = (k : Int)) && decide (0 ≤ j) && decide (j < j))) = false := by simp
  rw [this]; rfl
 have hsh : shOf b (k : Int) j = ⟨x.Shade.Low + j, x.Shade.High + j⟩ := by
  unfold shOf
  rw [Int.toNat_natCast, hx]
 refine ⟨m ++ [(⟨(k : Int), j⟩, ⟨x.Shade.Low + j, x.Shade.High + j⟩)], ?_, fun h n => ?_⟩
 ·unfold g80_8 mput
  rw [hnone, wr_in (by omega) (by omega), wr_in (by omega) (by omega)]
  rfl
 ·rw [mget_append]
  by_cases he : h = (k : Int) ∧ n = j
  ·obtain ⟨rfl, rfl⟩ := he
   rw [hnone]
   have hq : q84 ⟨(k : Int), n⟩ ⟨(k : Int), n⟩ = true := (q84_iff _ _).2 rfl
   have ht : ((decide (0 ≤ (k : Int)) && decide ((k : Int) < (k : Int)) && decide (0 ≤ n) && decide (n ≤ b.Dark)) || (decide ((k : Int) = (k : Int)) && decide (0 ≤ n) && decide (n < n + 1))) = true := by
    simp; omega
   rw [ht, hsh]
   simp only [hq, cond_true]
  ·have hq : q84 ⟨h, n⟩ ⟨(k : Int), j⟩ = false := by
    cases hc : q84 ⟨h, n⟩ ⟨(k : Int), j⟩ with
    | false => rfl
    | true =>
     have := (q84_iff _ _).1 hc
     injection this with e1 e2
     exact absurd ⟨e1, e2⟩ he
   rw [hm, hq]
   have : (decide (h = (k : Int)) && decide (0 ≤ n) && decide (n < j)) = (decide (h = (k : Int)) && decide (0 ≤ n) && decide (n < j + 1)) := by
    rw [Bool.eq_iff_iff]
    simp only [Bool.and_eq_true, decide_eq_true_eq]
    constructor
    ·rintro ⟨⟨a1, a2⟩, a3⟩; exact ⟨⟨a1, a2⟩, by omega⟩
    ·rintro ⟨⟨a1, a2⟩, a3⟩
     refine ⟨⟨a1, a2⟩, ?_⟩
     by_cases e : n = j
     ·exact absurd ⟨a1, e⟩ he
     ·omega
   rw [this]
   cases (decide (0 ≤ h) && decide (h < (k : Int)) && decide (0 ≤ n) && decide (n ≤ b.Dark)) || (decide (h = (k : Int)) && decide (0 ≤ n) && decide (n < j + 1)) <;> rfl
def ShOk (b : HairBook) (m : List (Hair_dye × Span)) : Prop := ∀ (h n : Int), 0 ≤ h → h < b.Hanks.length → 0 ≤ n → n ≤ b.Dark → mget q84 m ⟨h, n⟩ = some (shOf b h n)
theorem p80 {b : HairBook} (ok : OkH b) : ∃ m, g80 b = some (b, m) ∧ ShOk b m := by
 have hd := ok.dark
 have e : wr (b.Dark + 1) = b.Dark + 1 := wr_in (by omega) (by omega)
 obtain ⟨m, em, hm⟩ := eachS_inv (f := g80_3 b) (fun k m => ShK b (k : Int) 0 m) b.Hanks 0 [] (fun h n => by
  have : ((decide (0 ≤ h) && decide (h < ((0 : Nat) : Int)) && decide (0 ≤ n) && decide (n ≤ b.Dark)) || (decide (h = ((0 : Nat) : Int)) && decide (0 ≤ n) && decide (n < 0))) = false := by
   rw [Bool.eq_false_iff]
   intro hc
   simp only [Bool.or_eq_true, Bool.and_eq_true, decide_eq_true_eq] at hc
   omega
  rw [this]; rfl) (fun k x m hk hx hm => by
  rw [Nat.sub_zero] at hx
  obtain ⟨m', e', h'⟩ := forS_inv (f := g80_8 (k : Int) x) (fun j m => ShK b (k : Int) j m) (b.Dark + 1 - 0).toNat 0 m hm (fun j s j1 j2 hs => p80_8 ok hx j1 (by omega) hs)
  refine ⟨m', by unfold g80_3; rw [e, e', bsm], fun h n => ?_⟩
  rw [h']
  congr 1
  rw [Bool.eq_iff_iff]
  simp only [Bool.or_eq_true, Bool.and_eq_true, decide_eq_true_eq]
  omega)
 refine ⟨m, ?_, fun h n h1 h2 h3 h4 => ?_⟩
 ·unfold g80
  rw [show ((0 : Nat) : Int) = 0 from rfl] at em
  rw [em, bsm]
 ·rw [hm]
  have : ((decide (0 ≤ h) && decide (h < ((0 + b.Hanks.length : Nat) : Int)) && decide (0 ≤ n) && decide (n ≤ b.Dark)) || (decide (h = ((0 + b.Hanks.length : Nat) : Int)) && decide (0 ≤ n) && decide (n < 0))) = true := by
   simp only [Bool.or_eq_true, Bool.and_eq_true, decide_eq_true_eq]
   omega
  rw [this]; rfl
def nearB (b : HairBook) (want : Int) (s : Span) : Bool := decide (s.High - want ≤ b.Near) && decide (want - s.Low ≤ b.Near)
def mB (b : HairBook) (want mane tail m t : Int) : Bool := nearB b want (shOf b mane m) && nearB b want (shOf b tail t) &&
 bif decide (mane = tail) then decide (-b.Match ≤ m - t) && decide (m - t ≤ b.Match) else decide ((shOf b mane m).High - (shOf b tail t).Low ≤ b.Match) && decide ((shOf b tail t).High - (shOf b mane m).Low ≤ b.Match)
theorem sh_bd {b : HairBook} (ok : OkH b) {h n : Int} (h1 : 0 ≤ h) (h2 : h < b.Hanks.length) (h3 : 0 ≤ n) (h4 : n ≤ b.Dark) : 0 ≤ (shOf b h n).Low ∧ (shOf b h n).Low ≤ (shOf b h n).High ∧ (shOf b h n).High ≤ 24 := by
 have hd := ok.dark
 have hlt : h.toNat < b.Hanks.length := by omega
 have hs := (ok.hanks _ (List.getElem_mem hlt)).s
 unfold shOf
 rw [List.getElem?_eq_getElem hlt]
 simp only
 omega
theorem p100 {b : HairBook} (ok : OkH b) {mf : List (Hair_dye × Span)} (hmf : ShOk b mf) {horse : Int} {p : HairHorse} (hp : ixL b.Horses horse = some p) (hw : 0 ≤ p.Shade ∧ p.Shade ≤ 25) {mane tail m t : Int} (a1 : 0 ≤ mane) (a2 : mane < b.Hanks.length) (b1 : 0 ≤ tail) (b2 : tail < b.Hanks.length)
  (m1 : 0 ≤ m) (m2 : m ≤ b.Dark) (t1 : 0 ≤ t) (t2 : t ≤ b.Dark) : g100 b mf horse ⟨mane, m⟩ ⟨tail, t⟩ = some (mB b p.Shade mane tail m t) := by
 have hd := ok.dark
 have hn := ok.near
 have hma := ok.mat
 have hs := sh_bd ok a1 a2 m1 m2
 have ht := sh_bd ok b1 b2 t1 t2
 unfold g100
 rw [hp, bsm, hmf mane m a1 a2 m1 m2, hmf tail t b1 b2 t1 t2]
 simp only [Option.getD_some]
 generalize hS : shOf b mane m = s at hs
 generalize hT : shOf b tail t = u at ht
 have g3 : ∀ a x y z, g113 a [x, y, z] = some (max (max (max a x) y) z) := fun _ _ _ _ => rfl
 have g1 : ∀ a x, g113 a [x] = some (max a x) := fun _ _ => rfl
 rw [wr_in (show -9223372036854775808 ≤ s.High - p.Shade by omega) (by omega), wr_in (show -9223372036854775808 ≤ p.Shade - s.Low by omega) (by omega), wr_in (show -9223372036854775808 ≤ u.High - p.Shade by omega) (by omega), wr_in (show -9223372036854775808 ≤ p.Shade - u.Low by omega) (by omega), g3, bsm,
  wr_in (show -9223372036854775808 ≤ m - t by omega) (by omega), wr_in (show -9223372036854775808 ≤ -b.Match by omega) (by omega), wr_in (show -9223372036854775808 ≤ s.High - u.Low by omega) (by omega), wr_in (show -9223372036854775808 ≤ u.High - s.Low by omega) (by omega), g1, p57]
 simp only [bsm, cs]
 unfold mB nearB
 rw [hS, hT]
 by_cases hnear : b.Near < max (max (max (s.High - p.Shade) (p.Shade - s.Low)) (u.High - p.Shade)) (p.Shade - u.Low)
 ·rw [decide_eq_true hnear, cond_true]
  have : (decide (s.High - p.Shade ≤ b.Near) && decide (p.Shade - s.Low ≤ b.Near) && (decide (u.High - p.Shade ≤ b.Near) && decide (p.Shade - u.Low ≤ b.Near))) = false := by
   rw [Bool.eq_false_iff]
   intro hc
   simp only [Bool.and_eq_true, decide_eq_true_eq] at hc
   omega
  rw [this]; rfl
 ·rw [decide_eq_false hnear, cond_false]
  have : (decide (s.High - p.Shade ≤ b.Near) && decide (p.Shade - s.Low ≤ b.Near) && (decide (u.High - p.Shade ≤ b.Near) && decide (p.Shade - u.Low ≤ b.Near))) = true := by
   simp only [Bool.and_eq_true, decide_eq_true_eq]
   omega
  rw [this, Bool.true_and]
  by_cases he : mane = tail
  ·rw [decide_eq_true he]
   simp only [cond_true]
   by_cases hmt : m = t
   ·subst he; subst hmt
    have e1 : (false != ((mane == mane) && ((m == m) && true))) = true := by simp
    have e2 : (decide (-b.Match ≤ m - m) && decide (m - m ≤ b.Match)) = true := by
     simp only [Bool.and_eq_true, decide_eq_true_eq]; omega
    rw [e1, e2]; rfl
   ·have e1 : (false != ((mane == tail) && ((m == t) && true))) = false := by
     have : (m == t) = false := by simpa using hmt
     rw [this]; simp
    rw [e1]; rfl
  ·rw [decide_eq_false he]
   simp only [cond_false]
   congr 1
   rw [Bool.eq_iff_iff]
   simp only [Bool.and_eq_true, decide_eq_true_eq]
   omega
def dyesF (b : HairBook) (want mane tail : Int) : Option (Int × Int) := (firstI (fun m => (firstI (fun t => mB b want mane tail m t) (b.Dark + 1).toNat 0).isSome) (b.Dark + 1).toNat 0).map fun m => (m, (firstI (fun t => mB b want mane tail m t) (b.Dark + 1).toNat 0).getD 0)
theorem p59 {b : HairBook} (ok : OkH b) {mf : List (Hair_dye × Span)} (hmf : ShOk b mf) {horse : Int} {p : HairHorse} (hp : ixL b.Horses horse = some p) (hw : 0 ≤ p.Shade ∧ p.Shade ≤ 25) {mane tail : Int} (a1 : 0 ≤ mane) (a2 : mane < b.Hanks.length) (b1 : 0 ≤ tail) (b2 : tail < b.Hanks.length) :
  g59 b mf horse mane tail = some (match dyesF b p.Shade mane tail with | some x => (⟨mane, x.1⟩, ⟨tail, x.2⟩, true) | none => (⟨0, 0⟩, ⟨0, 0⟩, false)) := by
 have hd := ok.dark
 have e : wr (b.Dark + 1) = b.Dark + 1 := wr_in (by omega) (by omega)
 unfold g59
 rw [e, Int.sub_zero]
 have := forC_firstU (f := g59_2 b mf horse mane tail) (fun m => (firstI (fun t => mB b p.Shade mane tail m t) (b.Dark + 1).toNat 0).isSome) (fun m => ((⟨mane, m⟩ : Hair_dye), (⟨tail, (firstI (fun t => mB b p.Shade mane tail m t) (b.Dark + 1).toNat 0).getD 0⟩ : Hair_dye), true)) (b.Dark + 1).toNat 0 (fun m m1 m2 => by
  have := forC_firstU (f := g59_6 b mf horse mane tail m) (fun t => mB b p.Shade mane tail m t) (fun t => .brk ((⟨mane, m⟩ : Hair_dye), (⟨tail, t⟩ : Hair_dye), true)) (b.Dark + 1).toNat 0 (fun t t1 t2 => by
   unfold g59_6
   rw [p100 ok hmf hp hw a1 a2 b1 b2 m1 (by omega) t1 (by omega), bsm, cs])
  unfold g59_2
  rw [e, Int.sub_zero, this]
  cases firstI (fun t => mB b p.Shade mane tail m t) (b.Dark + 1).toNat 0 <;> rfl)
 rw [this]
 unfold dyesF
 cases firstI (fun m => (firstI (fun t => mB b p.Shade mane tail m t) (b.Dark + 1).toNat 0).isSome) (b.Dark + 1).toNat 0 <;> rfl
end Go.Proofs.YtonjadhpjkbhnaaDoor
namespace Go.Proofs.YtonjadhpjkbhnaaDoor
open Go.Abs Go.Proofs.Th
def sdHank (x : HairHank) : Bool := decide (1 ≤ x.Weight.Low) && decide (x.Weight.Low ≤ x.Weight.High) && decide (x.Weight.High ≤ 60) && (decide (0 ≤ x.Shade.Low) && decide (x.Shade.Low ≤ x.Shade.High) && decide (x.Shade.High ≤ 20))
def sdHorse (x : HairHorse) : Bool := rg x.Mane 1 30 && rg x.Tail 1 30
theorem p35_loop1 (b : HairBook) (hl : b.Hanks.length < 900) (s : Bool) : whileC (g35_18 b) 1000 (s, 0) = some (s && b.Hanks.all sdHank) := by
 have h0 : ∀ i, g35_18 b (false, i) = some (.brk false) := fun i => by simp [g35_18, bsm]
 cases s with
 | false => rw [whileC, h0]; rfl
 | true =>
  have := while_all (f := g35_18 b) (p := sdHank) (xs := b.Hanks) hl h0 (by simp [g35_18, bsm]) (fun i x hx => by
   have hi : i < b.Hanks.length := (List.getElem?_eq_some_iff.1 hx).1
   simp only [g35_18, cond_true, bsm, ixL_nat, hx, g64, sdHank, cs, Bool.cond_false_right]
   have : decide ((i : Int) < (b.Hanks.length : Int)) = true := by simp [hi]
   rw [this, wr_nat (by omega)]
   simp only [cond_true]) b.Hanks.length 0 (by omega) 1000 (by omega)
  simpa using this
theorem p35_loop2 (b : HairBook) (hl : b.Horses.length < 900) (s : Bool) : whileC (g35_33 b) 1000 (s, 0) = some (s && b.Horses.all sdHorse) := by
 have h0 : ∀ i, g35_33 b (false, i) = some (.brk false) := fun i => by simp [g35_33, bsm]
 cases s with
 | false => rw [whileC, h0]; rfl
 | true =>
  have := while_all (f := g35_33 b) (p := sdHorse) (xs := b.Horses) hl h0 (by simp [g35_33, bsm]) (fun i x hx => by
   have hi : i < b.Horses.length := (List.getElem?_eq_some_iff.1 hx).1
   simp only [g35_33, cond_true, bsm, ixL_nat, hx, g50, sdHorse, rg, cs, Bool.cond_false_right]
   have : decide ((i : Int) < (b.Horses.length : Int)) = true := by simp [hi]
   rw [this, wr_nat (by omega)]
   simp only [cond_true]) b.Horses.length 0 (by omega) 1000 (by omega)
  simpa using this
theorem p50 (n a c : Int) : g50 n a c = some (rg n a c) := rfl
theorem p35 (b : HairBook) : g35 b = some (okH b) := by
 unfold g35
 rw [p17, bsm]
 cases hok : okH b with
 | false =>
  simp only [cond_false, show decide ((60 : Int) = 0) = false from rfl, bsm]
  have e1 : whileC (g35_18 b) 1000 (false, 0) = some false := by rw [whileC]; simp [g35_18, bsm]
  have e2 : whileC (g35_33 b) 1000 (false, 0) = some false := by rw [whileC]; simp [g35_33, bsm]
  simp only [e1, e2, bsm]
 | true =>
  have ok := okH_of hok
  have h4 := okH_l4 hok
  have h3 := ok.l3
  have q1 : b.Hanks.all sdHank = true := by
   rw [List.all_eq_true]
   intro x hx
   obtain ⟨a1, a2⟩ := ok.hanks x hx
   simp only [sdHank, Bool.and_eq_true, decide_eq_true_eq]
   omega
  have q2 : b.Horses.all sdHorse = true := by
   rw [List.all_eq_true]
   intro x hx
   obtain ⟨a1, a2, a3⟩ := ok.horses x hx
   simp only [sdHorse, Bool.and_eq_true, rg_iff]
   omega
  simp only [cond_true, decide_true, bsm, p50]
  rw [decide_eq_true (show (b.Hanks.length : Int) ≤ 4 by omega), decide_eq_true (show (b.Horses.length : Int) ≤ 3 by omega), rg_iff.2 ok.dark, rg_iff.2 ok.near, rg_iff.2 ok.mat]
  simp only [cond_true, bsm]
  rw [p35_loop1 b (by omega)]
  simp only [bsm]
  rw [p35_loop2 b (by omega), q1, q2]
  rfl
theorem p39 (n : Int) {many : Int} (h1 : 1 ≤ many) (h2 : many ≤ 9223372036854775807) : ∃ r, g39 n many = some r ∧ 0 ≤ r ∧ r < many := by
 have a1 := Int.tmod_lt_of_pos n (show 0 < many by omega)
 have a2 := Int.lt_tmod_of_pos n (show 0 < many by omega)
 unfold g39
 rw [decide_eq_false (by omega), cond_false, must_t (by simp; omega), bsm]
 by_cases h : n.tmod many < 0
 ·rw [decide_eq_true h, cond_true, wr_in (by omega) (by omega)]
  exact ⟨_, rfl, by omega, by omega⟩
 ·rw [decide_eq_false h, cond_false]
  exact ⟨_, rfl, by omega, by omega⟩
end Go.Proofs.YtonjadhpjkbhnaaDoor
namespace Go.Proofs.YtonjadhpjkbhnaaDoor
open Go.Abs Go.Proofs.Th
def partN (b : HairBook) (v : Nat) : Int := match b.Horses[v / 2]? with
 | some h => bif decide (v % 2 = 0) then h.Mane else h.Tail
 | none => 0
def cutS (b : HairBook) : List Int → Nat → Int → Int
 | [], _, _ => 0
 | p :: ps, v, k => (bif decide (p = k) then partN b v else 0) + cutS b ps (v + 1) k
theorem partN_bd {b : HairBook} (ok : OkH b) (v : Nat) : 0 ≤ partN b v ∧ partN b v ≤ 30 := by
 unfold partN
 cases hh : b.Horses[v / 2]? with
 | none => simp
 | some h =>
  obtain ⟨h1, h2, _⟩ := ok.horses h (List.mem_of_getElem? hh)
  simp only
  cases decide (v % 2 = 0) <;> simp only [cond_true, cond_false] <;> omega
theorem cutS_bd {b : HairBook} (ok : OkH b) (k : Int) : ∀ (ps : List Int) (v : Nat), 0 ≤ cutS b ps v k ∧ cutS b ps v k ≤ 30 * ps.length
 | [], v => by simp [cutS]
 | p :: ps, v => by
  have h1 := partN_bd ok v
  have h2 := cutS_bd ok k ps (v + 1)
  rw [cutS, List.length_cons]
  cases decide (p = k) <;> simp only [cond_true, cond_false] <;> omega
def planB (b : HairBook) (plan : List Int) : Bool := decide ((plan.length : Int) = 2 * (b.Horses.length : Int)) && plan.all fun n => rg n 0 ((b.Hanks.length : Int) - 1)
structure PlanOk (b : HairBook) (plan : List Int) : Prop where
 len : plan.length = 2 * b.Horses.length
 rng : ∀ n, n ∈ plan → 0 ≤ n ∧ n < b.Hanks.length
theorem plan_of {b : HairBook} {plan : List Int} (h : planB b plan = true) : PlanOk b plan := by
 simp only [planB, Bool.and_eq_true, decide_eq_true_eq, List.all_eq_true, rg_iff] at h
 exact ⟨by omega, fun n hn => by have := h.2 n hn; omega⟩
theorem tdiv_nat (v : Nat) : (v : Int).tdiv 2 = ((v / 2 : Nat) : Int) := rfl
theorem tmod_nat (v : Nat) : (v : Int).tmod 2 = ((v % 2 : Nat) : Int) := rfl
theorem aset_get (w : Nat → Int) (j k : Nat) (x : Int) : aset w j x k = if k = j then x else w k := by
 unfold aset
 by_cases h : k = j
 ·subst h; simp
 ·rw [if_neg h]
  cases hb : Nat.beq k j with
  | true => exact absurd (Nat.eq_of_beq_eq_true hb) h
  | false => rfl
theorem p71_loop {b : HairBook} (ok : OkH b) : ∀ (ps : List Int) (v : Nat) (w : Nat → Int) (c : Int), v + ps.length ≤ 2 * b.Horses.length → (∀ n, n ∈ ps → 0 ≤ n ∧ n < b.Hanks.length) → 0 ≤ c → c + 30 * ps.length ≤ 1000 → (∀ k, 0 ≤ w k ∧ w k ≤ c) →
  ∃ w', eachS (g71_5 b) ps (v : Int) w = some w' ∧ ∀ k : Nat, w' k = w k + cutS b ps v (k : Int)
 | [], v, w, c, hl, hr, h0, hc, hw => ⟨w, rfl, fun k => by simp [cutS]⟩
 | p :: ps, v, w, c, hl, hr, h0, hc, hw => by
  simp only [List.length_cons] at hl hc
  have h4 := ok.l4
  have h3 := ok.l3
  have hp := hr p (by simp)
  have hpn := partN_bd ok v
  obtain ⟨q, rfl⟩ : ∃ q : Nat, p = (q : Int) := ⟨p.toNat, by omega⟩
  have hq5 : q < 5 := by omega
  have hlt : v / 2 < b.Horses.length := by omega
  have hwq := hw q
  have hstep : g71_5 b (v : Int) (q : Int) w = some (aset w q (w q + partN b v)) := by
   unfold g71_5
   rw [ixN_nat hq5, bsm, tmod_nat, ixN_nat (show v % 2 < 2 by omega), bsm, tdiv_nat, wr_in (by omega) (by omega), ixL_nat, List.getElem?_eq_getElem hlt]
   unfold partN at hpn ⊢
   rw [List.getElem?_eq_getElem hlt] at hpn ⊢
   simp only at hpn ⊢
   have hm : v % 2 = 0 ∨ v % 2 = 1 := by omega
   rcases hm with hm | hm
   ·rw [hm] at hpn ⊢
    simp only [decide_true, cond_true, bsm, g133, ixN_nat hq5] at hpn ⊢
    rw [wr_in (by omega) (by omega)]
   ·rw [hm] at hpn ⊢
    simp only [show decide ((1 : Nat) = 0) = false from rfl, cond_false, bsm, g135, ixN_nat hq5] at hpn ⊢
    rw [wr_in (by omega) (by omega)]
  obtain ⟨w', e, hw'⟩ := p71_loop ok ps (v + 1) (aset w q (w q + partN b v)) (c + 30) (by omega) (fun n hn => hr n (by simp [hn])) (by omega) (by omega) (fun k => by
   rw [aset_get]
   have := hw k
   by_cases hk : k = q
   ·subst hk; rw [if_pos rfl]; omega
   ·rw [if_neg hk]; omega)
  refine ⟨w', ?_, fun k => ?_⟩
  ·rw [eachS, hstep, bsm, show (v : Int) + 1 = ((v + 1 : Nat) : Int) by omega, e]
  ·rw [hw', cutS, aset_get]
   by_cases hk : k = q
   ·subst hk; rw [if_pos rfl, decide_eq_true rfl]; simp only [cond_true]; omega
   ·rw [if_neg hk, decide_eq_false (by omega)]; simp only [cond_false]; omega
theorem p71 {b : HairBook} (ok : OkH b) (mf : List (Hair_dye × Span)) {plan : List Int} (hp : PlanOk b plan) : ∃ w, g71 b mf plan = some w ∧ ∀ k : Nat, w k = cutS b plan 0 (k : Int) := by
 have h3 := ok.l3
 have hl := hp.len
 have hz : ∀ k, arrL [(0 : Int), 0, 0, 0, 0] k = 0 := fun k => by
  match k with
  | 0 => rfl
  | 1 => rfl
  | 2 => rfl
  | 3 => rfl
  | 4 => rfl
  | k + 5 => rfl
 obtain ⟨w, e, hw⟩ := p71_loop ok plan 0 (arrL [0, 0, 0, 0, 0]) 0 (by omega) hp.rng (by omega) (by omega) (fun k => by rw [hz]; omega)
 refine ⟨w, ?_, fun k => by rw [hw, hz]; omega⟩
 unfold g71 g105
 rw [show ((0 : Nat) : Int) = 0 from rfl] at e
 rw [bsm, e, bsm]
theorem p58 {b : HairBook} (ok : OkH b) (mf : List (Hair_dye × Span)) (n : Int) : g58 b mf n = some (rg n 0 ((b.Hanks.length : Int) - 1)) := by
 have h4 := ok.l4
 unfold g58
 rw [wr_in (by omega) (by omega), p57]; rfl
theorem p115 {b : HairBook} (ok : OkH b) (mf : List (Hair_dye × Span)) : ∀ (s : List Int) (i : Int), 0 ≤ i → ∃ c, eachC (g115_3 b mf) s i () = some c ∧ ((s.all (fun n => rg n 0 ((b.Hanks.length : Int) - 1)) = true ∧ c = .next ()) ∨ (s.all (fun n => rg n 0 ((b.Hanks.length : Int) - 1)) = false ∧ ∃ j, c = .brk j ∧ 0 ≤ j))
 | [], i, h => ⟨.next (), rfl, .inl ⟨rfl, rfl⟩⟩
 | x :: xs, i, h => by
  rw [eachC]
  simp only [g115_3, g103, p58 ok, bsm]
  cases hx : rg x 0 ((b.Hanks.length : Int) - 1) with
  | true =>
   obtain ⟨c, h1, h2⟩ := p115 ok mf xs (i + 1) (by omega)
   refine ⟨c, by simpa [bsm] using h1, ?_⟩
   rw [List.all_cons, hx, Bool.true_and]; exact h2
  | false => exact ⟨.brk i, rfl, .inr ⟨by rw [List.all_cons, hx]; rfl, i, rfl, h⟩⟩
theorem p66 {b : HairBook} (ok : OkH b) (mf : List (Hair_dye × Span)) (plan : List Int) : g66 b mf plan = some (planB b plan) := by
 have h3 := ok.l3
 unfold g66 g102 g115 planB
 rw [wr_in (by omega) (by omega)]
 cases decide ((plan.length : Int) = 2 * (b.Horses.length : Int)) with
 | false => rfl
 | true =>
  obtain ⟨c, h1, h2⟩ := p115 ok mf plan 0 (by omega)
  rw [h1]
  rcases h2 with ⟨h2, rfl⟩ | ⟨h2, j, rfl, h3⟩
  ·rw [h2]; rfl
  ·rw [h2]; simp [bindC, bsm, h3]
def fitK (b : HairBook) (plan : List Int) : Bool := b.Hanks.zipIdx.all fun y => !decide (y.1.Weight.Low < cutS b plan 0 (y.2 : Int))
def dyeK (b : HairBook) (plan : List Int) : Bool := b.Horses.zipIdx.all fun y => (dyesF b y.1.Shade ((plan[2 * y.2]?).getD 0) ((plan[2 * y.2 + 1]?).getD 0)).isSome
def worksB (b : HairBook) (plan : List Int) : Bool := fitK b plan && dyeK b plan
theorem eachC_zip {α R : Type} {f : Int → α → Unit → Option (Ctl Unit R)} (p : α × Nat → Bool) (r : R) : ∀ (xs : List α) (i : Nat), (∀ (j : Nat) x, i ≤ j → xs[j - i]? = some x → f (j : Int) x () = some (bif p (x, j) then .next () else .brk r)) → eachC f xs (i : Int) () = some (bif (xs.zipIdx i).all p then .next () else .brk r)
 | [], i, h => rfl
 | x :: xs, i, h => by
  rw [eachC, h i x (Nat.le_refl _) (by simp), bsm, List.zipIdx_cons, List.all_cons]
  cases p (x, i) with
  | false => rfl
  | true =>
   simp only [cond_true, Bool.true_and]
   rw [show (i : Int) + 1 = ((i + 1 : Nat) : Int) by omega]
   exact eachC_zip p r xs (i + 1) (fun j y hj hy => h j y (by omega) (by
    have : j - i = (j - (i + 1)) + 1 := by omega
    rw [this, List.getElem?_cons_succ]; exact hy))
theorem p67 {b : HairBook} (ok : OkH b) {mf : List (Hair_dye × Span)} (hmf : ShOk b mf) {plan : List Int} (hp : PlanOk b plan) : g67 b mf plan = some (worksB b plan) := by
 have h3 := ok.l3
 have h4 := ok.l4
 obtain ⟨w, ew, hw⟩ := p71 ok mf hp
 unfold g67
 rw [ew, bsm]
 have l1 := eachC_zip (f := g67_5 w) (fun y => !decide (y.1.Weight.Low < cutS b plan 0 (y.2 : Int))) false b.Hanks 0 (fun j x hj hx => by
  rw [Nat.sub_zero] at hx
  have hlt := (List.getElem?_eq_some_iff.1 hx).1
  unfold g67_5
  rw [ixN_nat (show j < 5 by omega), bsm, hw]
  cases decide (x.Weight.Low < cutS b plan 0 (j : Int)) <;> rfl)
 have l2 := eachC_zip (f := g67_17 b mf plan) (fun y => (dyesF b y.1.Shade ((plan[2 * y.2]?).getD 0) ((plan[2 * y.2 + 1]?).getD 0)).isSome) false b.Horses 0 (fun j x hj hx => by
  rw [Nat.sub_zero] at hx
  have hlt := (List.getElem?_eq_some_iff.1 hx).1
  have hl := hp.len
  have i1 : 2 * j < plan.length := by omega
  have i2 : 2 * j + 1 < plan.length := by omega
  have r1 := hp.rng _ (List.getElem_mem i1)
  have r2 := hp.rng _ (List.getElem_mem i2)
  have hws := (ok.horses x (List.mem_of_getElem? hx)).2.2
  unfold g67_17 g89
  rw [wr_in (show -9223372036854775808 ≤ 2 * (j : Int) by omega) (by omega), wr_in (show -9223372036854775808 ≤ 2 * (j : Int) + 1 by omega) (by omega), show 2 * (j : Int) = ((2 * j : Nat) : Int) by omega, show ((2 * j : Nat) : Int) + 1 = ((2 * j + 1 : Nat) : Int) by omega,
   ixL_nat, ixL_nat, List.getElem?_eq_getElem i1, List.getElem?_eq_getElem i2]
  simp only [bsm]
  rw [p59 ok hmf (horse := (j : Int)) (p := x) (by rw [ixL_nat]; exact hx) hws (by omega) (by omega) (by omega) (by omega)]
  simp only [bsm, List.getElem?_eq_getElem i1, List.getElem?_eq_getElem i2, Option.getD_some]
  cases dyesF b x.Shade plan[2 * j] plan[2 * j + 1] <;> rfl)
 rw [show ((0 : Nat) : Int) = 0 from rfl] at l1 l2
 rw [l1, l2]
 unfold worksB fitK dyeK
 cases b.Hanks.zipIdx.all (fun y => !decide (y.1.Weight.Low < cutS b plan 0 (y.2 : Int))) with
 | false => rfl
 | true =>
  cases b.Horses.zipIdx.all (fun y => (dyesF b y.1.Shade ((plan[2 * y.2]?).getD 0) ((plan[2 * y.2 + 1]?).getD 0)).isSome) <;> rfl
def worksT (b : HairBook) (plan : List Int) : Bool × Int := bif okH b then (bif planB b plan then (worksB b plan, 0) else (false, 61)) else (false, 60)
theorem p19 (b : HairBook) (plan : List Int) : g19 b plan = some (worksT b plan) := by
 unfold g19 g55a worksT
 rw [p17, bsm]
 cases hok : okH b with
 | false => rfl
 | true =>
  have ok := okH_of hok
  obtain ⟨mf, e80, hmf⟩ := p80 ok
  simp only [cond_true, ne_eq, not_true_eq_false, decide_false, cond_false, e80, bsm, g65, p66 ok]
  cases hp : planB b plan with
  | false => rfl
  | true =>
   simp only [Bool.not_true, cond_false, bsm, ne_eq, not_true_eq_false, decide_false, p67 ok hmf (plan_of hp), cond_true]
def offS (b : HairBook) (plan : List Int) (by_ : Span → Int) : List HairHank → Nat → Int
 | [], _ => 0
 | x :: xs, k => (bif decide (0 < cutS b plan 0 (k : Int)) then by_ x.Weight - cutS b plan 0 (k : Int) else 0) + offS b plan by_ xs (k + 1)
theorem off_loop {b : HairBook} (ok : OkH b) {plan : List Int} (hp : PlanOk b plan) {w : Nat → Int} (hw : ∀ k : Nat, w k = cutS b plan 0 (k : Int)) {f : Int → HairHank → Int → Option Int} {by_ : Span → Int} (hby : ∀ x, x ∈ b.Hanks → 0 ≤ by_ x.Weight ∧ by_ x.Weight ≤ 60)
  (hf : ∀ (k : Nat) (x : HairHank) (n : Int), f (k : Int) x n = (ixN 5 (k : Int)).bind fun j => bif decide (0 < w j) then (some (by_ x.Weight)).bind fun r => (ixN 5 (k : Int)).bind fun j1 => some (wr (n + wr (r - w j1))) else some n) :
  ∀ (xs : List HairHank) (k : Nat) (n c : Int), (∀ x, x ∈ xs → x ∈ b.Hanks) → k + xs.length ≤ 5 → 0 ≤ c → c + 1000 * xs.length ≤ 100000 → -c ≤ n → n ≤ c → eachS f xs (k : Int) n = some (n + offS b plan by_ xs k) ∧ -(1000 * xs.length : Int) ≤ offS b plan by_ xs k ∧ offS b plan by_ xs k ≤ 1000 * xs.length
 | [], k, n, c, hx, hk, h0, hc, h1, h2 => ⟨by simp [eachS, offS], by simp [offS], by simp [offS]⟩
 | x :: xs, k, n, c, hx, hk, h0, hc, h1, h2 => by
  simp only [List.length_cons] at hk hc ⊢
  have h3 := ok.l3
  have hlen := hp.len
  have hcut := cutS_bd ok (k : Int) plan 0
  have hb := hby x (hx x (by simp))
  have hstep : f (k : Int) x n = some (n + (bif decide (0 < cutS b plan 0 (k : Int)) then by_ x.Weight - cutS b plan 0 (k : Int) else 0)) := by
   rw [hf, ixN_nat (show k < 5 by omega), bsm, hw]
   cases decide (0 < cutS b plan 0 (k : Int)) with
   | false => simp
   | true =>
    simp only [cond_true, bsm]
    rw [hw, wr_in (show -9223372036854775808 ≤ by_ x.Weight - cutS b plan 0 (k : Int) by omega) (by omega), wr_in (by omega) (by omega)]
  have hbd : -1000 ≤ (bif decide (0 < cutS b plan 0 (k : Int)) then by_ x.Weight - cutS b plan 0 (k : Int) else 0) ∧ (bif decide (0 < cutS b plan 0 (k : Int)) then by_ x.Weight - cutS b plan 0 (k : Int) else 0) ≤ 1000 := by
   cases decide (0 < cutS b plan 0 (k : Int)) <;> simp only [cond_true, cond_false] <;> omega
  obtain ⟨e, b1, b2⟩ := off_loop ok hp hw hby hf xs (k + 1) _ (c + 1000) (fun y hy => hx y (by simp [hy])) (by omega) (by omega) (by omega) (show -(c + 1000) ≤ n + (bif decide (0 < cutS b plan 0 (k : Int)) then by_ x.Weight - cutS b plan 0 (k : Int) else 0) by omega) (by omega)
  refine ⟨?_, by rw [offS]; omega, by rw [offS]; omega⟩
  rw [eachS, hstep, bsm, show (k : Int) + 1 = ((k + 1 : Nat) : Int) by omega, e, offS, Int.add_assoc]
end Go.Proofs.YtonjadhpjkbhnaaDoor
namespace Go.Proofs.YtonjadhpjkbhnaaDoor
open Go Go.Abs Go.Proofs.Th
theorem offS_zero {b : HairBook} {plan : List Int} {by_ : Span → Int} : ∀ (xs : List HairHank) (k : Nat), (∀ j, k ≤ j → j < k + xs.length → cutS b plan 0 (j : Int) = 0) → offS b plan by_ xs k = 0
 | [], k, h => rfl
 | x :: xs, k, h => by
  rw [offS, h k (Nat.le_refl _) (by simp), offS_zero xs (k + 1) (fun j h1 h2 => h j (by omega) (by simp only [List.length_cons]; omega))]
  simp
theorem p75_core {b : HairBook} (ok : OkH b) {plan : List Int} (hp : PlanOk b plan) {w : Nat → Int} (hw : ∀ k : Nat, w k = cutS b plan 0 (k : Int)) {f : Int → HairHank → Int → Option Int} {by_ : Span → Int} (hby : ∀ x, x ∈ b.Hanks → 0 ≤ by_ x.Weight ∧ by_ x.Weight ≤ 60)
  (hf : ∀ (k : Nat) (x : HairHank) (n : Int), f (k : Int) x n = (ixN 5 (k : Int)).bind fun j => bif decide (0 < w j) then (some (by_ x.Weight)).bind fun r => (ixN 5 (k : Int)).bind fun j1 => some (wr (n + wr (r - w j1))) else some n) :
  (bif (false != (((w 0) == 0) && (((w 1) == 0) && (((w 2) == 0) && (((w 3) == 0) && (((w 4) == 0) && true)))))) then (some 0) else ((eachS f b.Hanks 0 0).bind fun n => some n)) = some (offS b plan by_ b.Hanks 0) := by
 have h4 := ok.l4
 cases hz : (false != (((w 0) == 0) && (((w 1) == 0) && (((w 2) == 0) && (((w 3) == 0) && (((w 4) == 0) && true)))))) with
 | true =>
  simp only [Bool.false_bne, Bool.and_true, Bool.and_eq_true, beq_iff_eq] at hz
  rw [offS_zero]
  ·rfl
  ·intro j h1 h2
   rw [← hw]
   match j, h2 with
   | 0, _ => exact hz.1
   | 1, _ => exact hz.2.1
   | 2, _ => exact hz.2.2.1
   | 3, _ => exact hz.2.2.2.1
   | 4, _ => exact hz.2.2.2.2
   | j + 5, h2 => omega
 | false =>
  obtain ⟨e, _, _⟩ := off_loop ok hp hw hby hf b.Hanks 0 0 0 (fun x hx => hx) (by omega) (by omega) (by omega) (by omega) (by omega)
  rw [show ((0 : Nat) : Int) = 0 from rfl] at e
  rw [e]
  simp [bsm]
def offT (b : HairBook) (plan : List Int) : Span × Int := bif okH b then (bif planB b plan && worksB b plan then (⟨offS b plan (·.Low) b.Hanks 0, offS b plan (·.High) b.Hanks 0⟩, 0) else (⟨0, 0⟩, 61)) else (⟨0, 0⟩, 60)
theorem p23 (b : HairBook) (plan : List Int) : g23 b plan = some (offT b plan) := by
 unfold g23 g55c offT
 rw [p17, bsm]
 cases hok : okH b with
 | false => rfl
 | true =>
  have ok := okH_of hok
  obtain ⟨mf, e80, hmf⟩ := p80 ok
  have e74 : g74 b mf plan = some (planB b plan && worksB b plan) := by
   unfold g74
   rw [p66 ok, bsm]
   cases hp : planB b plan with
   | false => rfl
   | true =>
    simp only [cond_true, p67 ok hmf (plan_of hp), bsm, Bool.true_and]
  simp only [cond_true, ne_eq, not_true_eq_false, decide_false, cond_false, e80, bsm, e74]
  cases hv : planB b plan && worksB b plan with
  | false => rfl
  | true =>
   simp only [Bool.and_eq_true] at hv
   have hp := plan_of hv.1
   obtain ⟨w, ew, hw⟩ := p71 ok mf hp
   have e1 : g75 b mf w = some (offS b plan (·.Low) b.Hanks 0) := p75_core ok hp hw (fun x hx => by have := (ok.hanks x hx).w; omega) (fun k x n => rfl)
   have e2 : g75a b mf w = some (offS b plan (·.High) b.Hanks 0) := p75_core ok hp hw (fun x hx => by have := (ok.hanks x hx).w; omega) (fun k x n => rfl)
   simp only [Bool.not_true, cond_false, bsm, ne_eq, not_true_eq_false, decide_false, cond_true, ew, g76, g77, e1, e2]
theorem p93 (l : List Int) (hl : (l.length : Int) ≤ 9223372036854775807) (n : Int) : ∃ r, g93 l n = some r := by
 unfold g93
 by_cases h0 : (l.length : Int) = 0
 ·rw [decide_eq_true h0]; exact ⟨0, rfl⟩
 ·obtain ⟨r, e, r1, r2⟩ := p39 n (many := (l.length : Int)) (by omega) hl
  rw [decide_eq_false h0, cond_false, e, bsm]
  obtain ⟨k, rfl⟩ : ∃ k : Nat, r = (k : Int) := ⟨r.toNat, by omega⟩
  rw [ixL_nat, List.getElem?_eq_getElem (show k < l.length by omega)]
  exact ⟨_, rfl⟩
theorem p36 {b : HairBook} (ok : OkH b) (h1 : b.Hanks.length ≠ 0) (bits : List Int) (hl : (bits.length : Int) ≤ 9223372036854775807) : ∃ plan, g36 b bits = some plan ∧ planB b plan = true := by
 have h3 := ok.l3
 have h4 := ok.l4
 obtain ⟨plan, e, e1, e2⟩ := forS_inv (f := g36_2 b bits) (fun (i : Int) (l : List Int) => (l.length : Int) = i ∧ l.all (fun n => rg n 0 ((b.Hanks.length : Int) - 1)) = true) (2 * (b.Horses.length : Int)).toNat 0 [] ⟨rfl, rfl⟩ (fun i l i1 i2 ⟨k1, k2⟩ => by
  obtain ⟨r, er⟩ := p93 bits hl i
  obtain ⟨q, eq, q1, q2⟩ := p39 (wr (r + wr (i.tdiv 2))) (many := (b.Hanks.length : Int)) (by omega) (by omega)
  refine ⟨l ++ [q], ?_, ?_, ?_⟩
  ·unfold g36_2
   rw [er, bsm, eq, bsm, appL_ok (by rw [List.length_append, List.length_singleton]; omega), bsm]
  ·simp; omega
  ·rw [List.all_append, k2, List.all_cons, rg_iff.2 (show 0 ≤ q ∧ q ≤ (b.Hanks.length : Int) - 1 by omega)]; rfl)
 refine ⟨plan, ?_, ?_⟩
 ·unfold g36
  rw [wr_in (by omega) (by omega), Int.sub_zero, e, bsm]
 ·unfold planB
  rw [e2, Bool.and_true, decide_eq_true_eq]
  omega
theorem cutS_snoc (b : HairBook) (k p : Int) : ∀ (ps : List Int) (v : Nat), cutS b (ps ++ [p]) v k = cutS b ps v k + bif decide (p = k) then partN b (v + ps.length) else 0
 | [], v => by simp [cutS]
 | q :: ps, v => by
  rw [List.cons_append, cutS, cutS_snoc b k p ps (v + 1), cutS, List.length_cons, show v + 1 + ps.length = v + (ps.length + 1) by omega]
  omega
end Go.Proofs.YtonjadhpjkbhnaaDoor
namespace Go.Proofs.YtonjadhpjkbhnaaDoor
open Go.Abs Go.Proofs.Th
def runY {A S : Type} (c : A → S → Option (S × Bool)) : List A → S → Option (S × Bool)
 | [], s => some (s, true)
 | a :: l, s => (c a s).bind fun r => bif r.2 then runY c l r.1 else some (r.1, false)
theorem runY_append {A S : Type} (c : A → S → Option (S × Bool)) : ∀ (l m : List A) (s : S), runY c (l ++ m) s = (runY c l s).bind fun r => bif r.2 then runY c m r.1 else some (r.1, false)
 | [], m, s => by simp [runY]
 | a :: l, m, s => by
  rw [List.cons_append, runY, runY]
  cases c a s with
  | none => rfl
  | some r =>
   obtain ⟨s', go⟩ := r
   cases go with
   | false => rfl
   | true => exact runY_append c l m s'
theorem runY_fold {A S X : Type} {B : A → S → Option (Ctl S X)} (g : S → A → S) : ∀ (l : List A) (s : S), (∀ a s, a ∈ l → B a s = some (.next (g s a))) → runY (fun a s => rndC B a s) l (.next s) = some (.next (l.foldl g s), true)
 | [], s, h => rfl
 | a :: l, s, h => by
  rw [runY]
  simp only [rndC, h a s (by simp), bsm, isNext, cond_true, List.foldl_cons]
  exact runY_fold g l _ (fun x s hx => h x s (by simp [hx]))
theorem runY_stop {A S X : Type} {B : A → S → Option (Ctl S X)} (r : X) (l : List A) (s : S) (h : ∀ a s, B a s = some (.brk r)) : runY (fun a s => rndC B a s) l (.next s) = some (match l with | [] => (.next s, true) | _ :: _ => (.brk r, false)) := by
 cases l with
 | nil => rfl
 | cons a l =>
  rw [runY]
  simp only [rndC, h a s, bsm, isNext]
  rfl
def tr (K : Nat) (ok : List Int → Bool) : Nat → List Int → List (List Int)
 | 0, p => bif ok p then [p] else []
 | n + 1, p => bif ok p then (List.range' 0 K).flatMap fun (k : Nat) => tr K ok n (p ++ [(k : Int)]) else []
def allp (K : Nat) : Nat → List Int → List (List Int)
 | 0, p => [p]
 | n + 1, p => (List.range' 0 K).flatMap fun (k : Nat) => allp K n (p ++ [(k : Int)])
theorem mem_allp {K : Nat} {q : List Int} : ∀ {n : Nat} {p : List Int}, q ∈ allp K n p ↔ ∃ l, q = p ++ l ∧ l.length = n ∧ ∀ x, x ∈ l → 0 ≤ x ∧ x < K
 | 0, p => by
  rw [allp, List.mem_singleton]
  constructor
  ·rintro rfl; exact ⟨[], by simp, rfl, by simp⟩
  ·rintro ⟨l, h1, h2, h3⟩
   rw [List.length_eq_zero_iff.1 h2] at h1; simpa using h1
 | n + 1, p => by
  rw [allp, List.mem_flatMap]
  constructor
  ·rintro ⟨k, hk, hq⟩
   rw [List.mem_range'_1] at hk
   obtain ⟨l, h1, h2, h3⟩ := mem_allp.1 hq
   refine ⟨(k : Int) :: l, by rw [h1]; simp, by simp [h2], fun x hx => ?_⟩
   rcases List.mem_cons.1 hx with rfl | hx
   ·omega
   ·exact h3 x hx
  ·rintro ⟨l, h1, h2, h3⟩
   cases l with
   | nil => simp at h2
   | cons x l =>
    have hx := h3 x (by simp)
    refine ⟨x.toNat, by rw [List.mem_range'_1]; omega, mem_allp.2 ⟨l, ?_, by simpa using h2, fun y hy => h3 y (by simp [hy])⟩⟩
    rw [show ((x.toNat : Nat) : Int) = x by omega, h1]; simp
theorem allp_pre {K : Nat} {ok : List Int → Bool} (hok : ∀ p k, ok (p ++ [k]) = true → ok p = true) {q : List Int} : ∀ {n : Nat} {p : List Int}, q ∈ allp K n p → ok q = true → ok p = true
 | 0, p, h, hq => by
  rw [allp, List.mem_singleton] at h
  rw [← h]; exact hq
 | n + 1, p, h, hq => by
  rw [allp, List.mem_flatMap] at h
  obtain ⟨k, _, h⟩ := h
  exact hok _ _ (allp_pre hok h hq)
theorem tr_eq {K : Nat} {ok : List Int → Bool} (hok : ∀ p k, ok (p ++ [k]) = true → ok p = true) : ∀ (n : Nat) (p : List Int), tr K ok n p = (allp K n p).filter ok
 | 0, p => by
  rw [tr, allp, List.filter_cons]
  cases ok p <;> rfl
 | n + 1, p => by
  rw [tr]
  cases hp : ok p with
  | true =>
   rw [cond_true, allp, List.filter_flatMap]
   congr 1
   funext k
   exact tr_eq hok n _
  | false =>
   rw [cond_false, Eq.comm, List.filter_eq_nil_iff]
   intro q hq hc
   have := allp_pre hok hq hc
   rw [hp] at this; cases this
theorem eachC_run {α A S : Type} {f : Int → α → S → Option (Ctl S (Bool × S))} (c : A → S → Option (S × Bool)) (L : Nat → List A) : ∀ (xs : List α) (i : Nat) (s : S), (∀ (j : Nat) x s, i ≤ j → xs[j - i]? = some x → f (j : Int) x s = (runY c (L j) s).map fun r => bif r.2 then .next r.1 else .brk (false, r.1)) →
  eachC f xs (i : Int) s = (runY c ((List.range' i xs.length).flatMap L) s).map fun r => bif r.2 then .next r.1 else .brk (false, r.1)
 | [], i, s, h => rfl
 | x :: xs, i, s, h => by
  rw [eachC, h i x s (Nat.le_refl _) (by simp), List.length_cons, List.range'_succ, List.flatMap_cons, runY_append]
  cases runY c (L i) s with
  | none => rfl
  | some r =>
   obtain ⟨s', go⟩ := r
   cases go with
   | false => rfl
   | true =>
    simp only [Option.map_some, bsm, cond_true]
    rw [show (i : Int) + 1 = ((i + 1 : Nat) : Int) by omega]
    exact eachC_run c L xs (i + 1) s' (fun j y s hj hy => h j y s (by omega) (by
     have : j - i = (j - (i + 1)) + 1 := by omega
     rw [this, List.getElem?_cons_succ]; exact hy))
def shH (b : HairBook) (i : Nat) : Int := match b.Horses[i]? with | some x => x.Shade | none => 0
def dyeQ (b : HairBook) (p : List Int) : Bool := (List.range (p.length / 2)).all fun i => (dyesF b (shH b i) ((p[2 * i]?).getD 0) ((p[2 * i + 1]?).getD 0)).isSome
def fitP (b : HairBook) (by_ : Span → Int) (p : List Int) : Bool := b.Hanks.zipIdx.all fun y => !decide (by_ y.1.Weight < cutS b p 0 (y.2 : Int))
def okP (b : HairBook) (by_ : Span → Int) (p : List Int) : Bool := fitP b by_ p && dyeQ b p
theorem fitP_iff {b : HairBook} {by_ : Span → Int} {p : List Int} : fitP b by_ p = true ↔ ∀ (k : Nat) x, b.Hanks[k]? = some x → cutS b p 0 (k : Int) ≤ by_ x.Weight := by
 unfold fitP
 rw [List.all_eq_true]
 constructor
 ·intro h k x hx
  have := h (x, k) (by
   rw [List.mem_iff_getElem?]
   exact ⟨k, by rw [List.getElem?_zipIdx, hx]; simp⟩)
  simpa using this
 ·intro h y hy
  rw [List.mem_iff_getElem?] at hy
  obtain ⟨k, hk⟩ := hy
  rw [List.getElem?_zipIdx] at hk
  cases hx : b.Hanks[k]? with
  | none => rw [hx] at hk; cases hk
  | some x =>
   rw [hx] at hk
   simp only [Option.map_some, Option.some.injEq, Nat.zero_add] at hk
   subst hk
   have := h k x hx
   simpa using this
theorem all_congr {α : Type} {f g : α → Bool} : ∀ {l : List α}, (∀ x, x ∈ l → f x = g x) → l.all f = l.all g
 | [], h => rfl
 | x :: l, h => by rw [List.all_cons, List.all_cons, h x (by simp), all_congr (fun y hy => h y (by simp [hy]))]
theorem dyeQ_snoc (b : HairBook) (p : List Int) (k : Int) : dyeQ b (p ++ [k]) = (dyeQ b p && bif decide (p.length % 2 = 1) then (dyesF b (shH b (p.length / 2)) ((p[p.length - 1]?).getD 0) k).isSome else true) := by
 have hc : ∀ i, i < p.length / 2 → (dyesF b (shH b i) (((p ++ [k])[2 * i]?).getD 0) (((p ++ [k])[2 * i + 1]?).getD 0)).isSome = (dyesF b (shH b i) ((p[2 * i]?).getD 0) ((p[2 * i + 1]?).getD 0)).isSome := fun i hi => by
  rw [List.getElem?_append_left (by omega), List.getElem?_append_left (by omega)]
 unfold dyeQ
 rw [List.length_append, List.length_singleton]
 by_cases h : p.length % 2 = 1
 ·rw [decide_eq_true h, cond_true, show (p.length + 1) / 2 = p.length / 2 + 1 by omega, List.range_succ, List.all_append, all_congr (fun i hi => hc i (List.mem_range.1 hi))]
  congr 1
  rw [List.all_cons, List.all_nil, Bool.and_true, List.getElem?_append_left (by omega), List.getElem?_append_right (by omega), show 2 * (p.length / 2) + 1 - p.length = 0 by omega, show 2 * (p.length / 2) = p.length - 1 by omega]
  rfl
 ·rw [decide_eq_false h, cond_false, Bool.and_true, show (p.length + 1) / 2 = p.length / 2 by omega, all_congr (fun i hi => hc i (List.mem_range.1 hi))]
theorem fitP_snoc {b : HairBook} (ok : OkH b) {by_ : Span → Int} {p : List Int} (hp : fitP b by_ p = true) {k : Nat} {x : HairHank} (hx : b.Hanks[k]? = some x) : fitP b by_ (p ++ [(k : Int)]) = !decide (by_ x.Weight < cutS b p 0 (k : Int) + partN b p.length) := by
 rw [fitP_iff] at hp
 rw [Bool.eq_iff_iff, fitP_iff]
 simp only [Bool.not_eq_true', decide_eq_false_iff_not, Int.not_lt]
 constructor
 ·intro h
  have := h k x hx
  rw [cutS_snoc, decide_eq_true rfl, cond_true, Nat.zero_add] at this
  exact this
 ·intro h j y hy
  rw [cutS_snoc, Nat.zero_add]
  by_cases e : (k : Int) = (j : Int)
  ·have : j = k := by omega
   subst this
   rw [decide_eq_true rfl, cond_true]
   rw [hx] at hy; cases hy; exact h
  ·rw [decide_eq_false e, cond_false]
   have := hp j y hy
   omega
theorem okP_snoc {b : HairBook} (ok : OkH b) {by_ : Span → Int} {p : List Int} (hp : okP b by_ p = true) {k : Nat} {x : HairHank} (hx : b.Hanks[k]? = some x) : okP b by_ (p ++ [(k : Int)]) = (!decide (by_ x.Weight < cutS b p 0 (k : Int) + partN b p.length) && bif decide (p.length % 2 = 1) then (dyesF b (shH b (p.length / 2)) ((p[p.length - 1]?).getD 0) (k : Int)).isSome else true) := by
 unfold okP at hp ⊢
 rw [Bool.and_eq_true] at hp
 rw [fitP_snoc ok hp.1 hx, dyeQ_snoc, hp.2, Bool.true_and]
theorem fitP_pre {b : HairBook} (ok : OkH b) {by_ : Span → Int} {p : List Int} {k : Int} (h : fitP b by_ (p ++ [k]) = true) : fitP b by_ p = true := by
 rw [fitP_iff] at h ⊢
 intro j x hx
 have := h j x hx
 rw [cutS_snoc, Nat.zero_add] at this
 have hb := partN_bd ok p.length
 cases hd : decide (k = (j : Int)) <;> rw [hd] at this <;> simp only [cond_true, cond_false] at this <;> omega
theorem okP_pre {b : HairBook} (ok : OkH b) {by_ : Span → Int} (p : List Int) (k : Int) (h : okP b by_ (p ++ [k]) = true) : okP b by_ p = true := by
 unfold okP at h ⊢
 rw [Bool.and_eq_true] at h ⊢
 refine ⟨fitP_pre ok h.1, ?_⟩
 rw [dyeQ_snoc, Bool.and_eq_true] at h
 exact h.2.1
def cutF (b : HairBook) (p : List Int) : Nat → Int := fun k => cutS b p 0 (k : Int)
theorem p112 {S : Type} (c : List Int → (Nat → Int) → S → Option (S × Bool)) {b : HairBook} (ok : OkH b) {mf : List (Hair_dye × Span)} (hmf : ShOk b mf) : ∀ (n fuel : Nat) (p : List Int) (s : S), p.length + n = 2 * b.Horses.length → n + 1 ≤ fuel → (∀ x, x ∈ p → 0 ≤ x ∧ x < b.Hanks.length) → okP b (·.Low) p = true →
  g112 c fuel p (cutF b p) b mf b mf s = (runY (fun q s => c q (cutF b q) s) (tr b.Hanks.length (okP b (·.Low)) n p) s).map fun r => (r.2, r.1)
 | 0, fuel, p, s, hl, hf, hr, ho => by
  have h3 := ok.l3
  obtain ⟨fuel, rfl⟩ : ∃ j, fuel = j + 1 := ⟨fuel - 1, by omega⟩
  rw [g112, wr_in (by omega) (by omega), decide_eq_true (show (p.length : Int) = 2 * (b.Horses.length : Int) by omega), cond_true, tr, ho, cond_true, runY]
  cases c p (cutF b p) s with
  | none => rfl
  | some r => obtain ⟨s', go⟩ := r; cases go <;> rfl
 | n + 1, fuel, p, s, hl, hf, hr, ho => by
  have h3 := ok.l3
  have h4 := ok.l4
  obtain ⟨fuel, rfl⟩ : ∃ j, fuel = j + 1 := ⟨fuel - 1, by omega⟩
  have hlt : p.length / 2 < b.Horses.length := by omega
  have hpn := partN_bd ok p.length
  have hH := ok.horses _ (List.getElem_mem hlt)
  rw [g112, wr_in (by omega) (by omega), decide_eq_false (show ¬ (p.length : Int) = 2 * (b.Horses.length : Int) by omega), cond_false, tdiv_nat, tmod_nat, ixN_nat (show p.length % 2 < 2 by omega)]
  rw [wr_in (show -9223372036854775808 ≤ ((p.length / 2 : Nat) : Int) by omega) (by omega)]
  rw [ixL_nat, List.getElem?_eq_getElem hlt]
  have key : ∀ {X : Option Int} {F : Int → Option (Bool × S)} {R : Option (Bool × S)}, X = some (partN b p.length) → F (partN b p.length) = R → X.bind F = R := by
   intro X F R h1 h2; rw [h1]; exact h2
  refine key ?_ ?_
  ·unfold partN
   rw [List.getElem?_eq_getElem hlt]
   have hm : p.length % 2 = 0 ∨ p.length % 2 = 1 := by omega
   rcases hm with hm | hm <;> rw [hm] <;> rfl
  have hstep : ∀ (j : Nat) (x : HairHank) (s : S), 0 ≤ j → b.Hanks[j - 0]? = some x → g112_16 (g112 c fuel) p (cutF b p) b mf b mf (partN b p.length) (j : Int) x s = (runY (fun q s => c q (cutF b q) s) (tr b.Hanks.length (okP b (·.Low)) n (p ++ [(j : Int)])) s).map fun r => bif r.2 then .next r.1 else .brk (false, r.1) := fun j x s _ hx => by
   rw [Nat.sub_zero] at hx
   have hj := (List.getElem?_eq_some_iff.1 hx).1
   have hcut := cutS_bd ok (j : Int) p 0
   have hsn := okP_snoc ok ho hx
   have hshH : shH b (p.length / 2) = b.Horses[p.length / 2].Shade := by
    unfold shH; rw [List.getElem?_eq_getElem hlt]
   unfold g112_16
   rw [ixN_nat (show j < 5 by omega), bsm]
   simp only [g107, bsm]
   rw [show cutF b p j = cutS b p 0 (j : Int) from rfl, wr_in (show -9223372036854775808 ≤ cutS b p 0 (j : Int) + partN b p.length by omega) (by omega)]
   have hgo : okP b (·.Low) (p ++ [(j : Int)]) = true → (slcL p 0 (p.length : Int)).bind (fun l => (appL 8 l [(j : Int)]).bind fun l1 => (g112 c fuel l1 (aset (cutF b p) j (cutS b p 0 (j : Int) + partN b p.length)) b mf b mf s).bind fun (r : Bool × S) => bif (!r.1) then some (.brk (false, r.2)) else some (.next r.2)) = (runY (fun q s => c q (cutF b q) s) (tr b.Hanks.length (okP b (·.Low)) n (p ++ [(j : Int)])) s).map fun r => bif r.2 then (.next r.1 : Ctl S (Bool × S)) else .brk (false, r.1) := fun hk => by
    rw [slcL_all, bsm, appL_ok (by rw [List.length_append, List.length_singleton]; omega), bsm]
    have hw : aset (cutF b p) j (cutS b p 0 (j : Int) + partN b p.length) = cutF b (p ++ [(j : Int)]) := by
     funext i
     rw [aset_get]
     unfold cutF
     rw [cutS_snoc, Nat.zero_add]
     by_cases e : i = j
     ·subst e; rw [if_pos rfl, decide_eq_true rfl, cond_true]
     ·rw [if_neg e, decide_eq_false (by omega), cond_false, Int.add_zero]
    rw [hw, p112 c ok hmf n fuel (p ++ [(j : Int)]) s (by rw [List.length_append, List.length_singleton]; omega) (by omega) (fun x hx => by
     rcases List.mem_append.1 hx with hx | hx
     ·exact hr x hx
     ·rw [List.mem_singleton] at hx; omega) hk]
    cases runY (fun q s => c q (cutF b q) s) (tr b.Hanks.length (okP b (·.Low)) n (p ++ [(j : Int)])) s with
    | none => rfl
    | some r => obtain ⟨s', go⟩ := r; cases go <;> rfl
   have hno : okP b (·.Low) (p ++ [(j : Int)]) = false → (some (.next s) : Option (Ctl S (Bool × S))) = (runY (fun q s => c q (cutF b q) s) (tr b.Hanks.length (okP b (·.Low)) n (p ++ [(j : Int)])) s).map fun r => bif r.2 then .next r.1 else .brk (false, r.1) := fun hk => by
    have : tr b.Hanks.length (okP b (·.Low)) n (p ++ [(j : Int)]) = [] := by
     cases n <;> rw [tr, hk] <;> rfl
    rw [this]; rfl
   by_cases h1 : x.Weight.Low < cutS b p 0 (j : Int) + partN b p.length
   ·rw [decide_eq_true h1] at hsn ⊢
    simp only [cond_true, bindC]
    exact hno (by rw [hsn]; rfl)
   ·rw [decide_eq_false h1] at hsn ⊢
    simp only [cond_false, Bool.not_false, Bool.true_and] at hsn ⊢
    by_cases h2 : p.length % 2 = 1
    ·have hlast : p.length - 1 < p.length := by omega
     have hlr := hr _ (List.getElem_mem hlast)
     rw [decide_eq_true h2, cond_true, List.getElem?_eq_getElem hlast, Option.getD_some, hshH] at hsn
     rw [tmod_nat, tdiv_nat, wr_in (show -9223372036854775808 ≤ ((p.length / 2 : Nat) : Int) by omega) (by omega), decide_eq_true (show ((p.length % 2 : Nat) : Int) = 1 by omega), cond_true, wr_in (show -9223372036854775808 ≤ (p.length : Int) - 1 by omega) (by omega), show (p.length : Int) - 1 = ((p.length - 1 : Nat) : Int) by omega, ixL_nat, List.getElem?_eq_getElem hlast, bsm, g89, p59 ok hmf (horse := ((p.length / 2 : Nat) : Int)) (p := b.Horses[p.length / 2]) (by rw [ixL_nat, List.getElem?_eq_getElem hlt]) hH.2.2 hlr.1 hlr.2 (show (0 : Int) ≤ (j : Int) by omega) (by omega)]
     cases hd : dyesF b b.Horses[p.length / 2].Shade p[p.length - 1] (j : Int) with
     | none =>
      rw [hd] at hsn
      simp only [bsm, Bool.not_false, cond_true, bindC]
      exact hno hsn
     | some d =>
      rw [hd] at hsn
      simp only [bsm, Bool.not_true, cond_false, bindC]
      exact hgo hsn
    ·rw [decide_eq_false h2, cond_false] at hsn
     rw [tmod_nat, decide_eq_false (show ¬ ((p.length % 2 : Nat) : Int) = 1 by omega), cond_false]
     simp only [bindC, bsm]
     exact hgo hsn
  have := eachC_run (f := g112_16 (g112 c fuel) p (cutF b p) b mf b mf (partN b p.length)) (fun q s => c q (cutF b q) s) (fun j => tr b.Hanks.length (okP b (·.Low)) n (p ++ [(j : Int)])) b.Hanks 0 s hstep
  rw [show ((0 : Nat) : Int) = 0 from rfl] at this
  rw [this, tr, ho, cond_true]
  cases runY (fun q s => c q (cutF b q) s) ((List.range' 0 b.Hanks.length).flatMap fun (k : Nat) => tr b.Hanks.length (okP b (·.Low)) n (p ++ [(k : Int)])) s with
  | none => rfl
  | some r => obtain ⟨s', go⟩ := r; cases go <;> rfl
def plansL (b : HairBook) (by_ : Span → Int) : List (List Int) := (allp b.Hanks.length (2 * b.Horses.length) []).filter (okP b by_)
theorem okP_nil {b : HairBook} {by_ : Span → Int} (h : ∀ x, x ∈ b.Hanks → 0 ≤ by_ x.Weight) : okP b by_ [] = true := by
 unfold okP
 rw [Bool.and_eq_true]
 refine ⟨fitP_iff.2 fun k x hx => ?_, rfl⟩
 have := h x (List.mem_of_getElem? hx)
 simp only [cutS]; exact this
theorem cutF_nil (b : HairBook) : arrL [(0 : Int), 0, 0, 0, 0] = cutF b [] := by
 funext k
 match k with
 | 0 => rfl
 | 1 => rfl
 | 2 => rfl
 | 3 => rfl
 | 4 => rfl
 | k + 5 => rfl
theorem p111 {S : Type} (c : List Int → (Nat → Int) → S → Option (S × Bool)) {b : HairBook} (ok : OkH b) {mf : List (Hair_dye × Span)} (hmf : ShOk b mf) (s : S) : g111 c b mf b mf s = (runY (fun q s => c q (cutF b q) s) (plansL b (·.Low)) s).map (·.1) := by
 have h3 := ok.l3
 unfold g111 g105
 rw [bsm, cutF_nil b, p112 c ok hmf (2 * b.Horses.length) 1000 [] s (by simp) (by omega) (by simp) (okP_nil fun x hx => by have := (ok.hanks x hx).w; omega), tr_eq (okP_pre ok)]
 unfold plansL
 cases runY (fun q s => c q (cutF b q) s) ((allp b.Hanks.length (2 * b.Horses.length) []).filter (okP b (·.Low))) s <;> rfl
def servedB (b : HairBook) : Bool := !(plansL b (·.Low)).isEmpty
theorem p84 {b : HairBook} (ok : OkH b) {mf : List (Hair_dye × Span)} (hmf : ShOk b mf) : g84 b mf = some (servedB b) := by
 unfold g84 g76 g88
 rw [bsm, bsm]
 simp only
 rw [p111 _ ok hmf]
 have := runY_stop (B := fun q u => g84_r5 (q, cutF b q) u) (X := Unit) () (plansL b (·.Low)) () (fun a s => rfl)
 unfold servedB
 have e : runY (fun q s => rndC g84_r5 (q, cutF b q) s) (plansL b (·.Low)) (.next ()) = runY (fun a s => rndC (fun q u => g84_r5 (q, cutF b q) u) a s) (plansL b (·.Low)) (.next ()) := by
  congr 1
 rw [e, this]
 cases plansL b (·.Low) <;> rfl
theorem dyeQ_full {b : HairBook} {p : List Int} (hp : p.length = 2 * b.Horses.length) : dyeQ b p = dyeK b p := by
 unfold dyeQ dyeK
 rw [hp, show 2 * b.Horses.length / 2 = b.Horses.length by omega, Bool.eq_iff_iff, List.all_eq_true, List.all_eq_true]
 constructor
 ·intro h y hy
  rw [List.mem_iff_getElem?] at hy
  obtain ⟨k, hk⟩ := hy
  rw [List.getElem?_zipIdx] at hk
  cases hx : b.Horses[k]? with
  | none => rw [hx] at hk; cases hk
  | some x =>
   rw [hx] at hk
   simp only [Option.map_some, Option.some.injEq, Nat.zero_add] at hk
   subst hk
   have := h k (List.mem_range.2 (List.getElem?_eq_some_iff.1 hx).1)
   unfold shH at this
   rw [hx] at this
   exact this
 ·intro h k hk
  have hlt := List.mem_range.1 hk
  have := h (b.Horses[k], k) (by
   rw [List.mem_iff_getElem?]
   exact ⟨k, by rw [List.getElem?_zipIdx, List.getElem?_eq_getElem hlt]; simp⟩)
  unfold shH
  rw [List.getElem?_eq_getElem hlt]
  exact this
theorem planB_iff {b : HairBook} {p : List Int} : planB b p = true ↔ p.length = 2 * b.Horses.length ∧ ∀ n, n ∈ p → 0 ≤ n ∧ n < b.Hanks.length := by
 constructor
 ·intro h; have := plan_of h; exact ⟨this.len, this.rng⟩
 ·rintro ⟨h1, h2⟩
  simp only [planB, Bool.and_eq_true, decide_eq_true_eq, List.all_eq_true, rg_iff]
  exact ⟨by omega, fun n hn => by have := h2 n hn; omega⟩
theorem mem_allP {b : HairBook} {p : List Int} : p ∈ allp b.Hanks.length (2 * b.Horses.length) [] ↔ planB b p = true := by
 rw [mem_allp, planB_iff]
 constructor
 ·rintro ⟨l, h1, h2, h3⟩
  rw [List.nil_append] at h1
  subst h1; exact ⟨h2, h3⟩
 ·rintro ⟨h1, h2⟩; exact ⟨p, rfl, h1, h2⟩
theorem mem_plans {b : HairBook} {p : List Int} : p ∈ plansL b (·.Low) ↔ planB b p = true ∧ worksB b p = true := by
 unfold plansL
 rw [List.mem_filter, mem_allP]
 constructor
 ·rintro ⟨h1, h2⟩
  refine ⟨h1, ?_⟩
  unfold okP at h2
  rw [dyeQ_full (planB_iff.1 h1).1] at h2
  exact h2
 ·rintro ⟨h1, h2⟩
  refine ⟨h1, ?_⟩
  unfold okP
  rw [dyeQ_full (planB_iff.1 h1).1]
  exact h2
theorem served_iff {b : HairBook} : servedB b = true ↔ ∃ p, planB b p = true ∧ worksB b p = true := by
 unfold servedB
 constructor
 ·intro h
  cases hl : plansL b (·.Low) with
  | nil => rw [hl] at h; cases h
  | cons p l => exact ⟨p, mem_plans.1 (by rw [hl]; simp)⟩
 ·rintro ⟨p, hp⟩
  cases hl : plansL b (·.Low) with
  | nil => have := mem_plans.2 hp; rw [hl] at this; cases this
  | cons q l => rfl
end Go.Proofs.YtonjadhpjkbhnaaDoor
namespace Go.Proofs.YtonjadhpjkbhnaaDoor
open Go.Abs Go.Proofs.Th
def offHi (b : HairBook) (q : List Int) : Int := offS b q (·.High) b.Hanks 0
def bestStep (b : HairBook) (s : List Int × Int × Bool) (q : List Int) : List Int × Int × Bool := bif !s.2.2 || decide (offHi b q < s.2.1) then (q, offHi b q, true) else s
def bestT (b : HairBook) : List Int × Int × Bool := (plansL b (·.Low)).foldl (bestStep b) ([], 0, false)
def bestO (b : HairBook) : Option (List Int) := bif (bestT b).2.2 then some (bestT b).1 else none
def BestI (b : HairBook) (pre : List (List Int)) (s : List Int × Int × Bool) : Prop := (pre = [] ∧ s = ([], 0, false)) ∨ ∃ l1 p l2, pre = l1 ++ p :: l2 ∧ s = (p, offHi b p, true) ∧ (∀ q, q ∈ l1 → offHi b p < offHi b q) ∧ ∀ q, q ∈ l2 → offHi b p ≤ offHi b q
theorem best_step {b : HairBook} {pre : List (List Int)} {s : List Int × Int × Bool} (h : BestI b pre s) (q : List Int) : BestI b (pre ++ [q]) (bestStep b s q) := by
 rcases h with ⟨rfl, rfl⟩ | ⟨l1, p, l2, rfl, rfl, h1, h2⟩
 ·exact .inr ⟨[], q, [], rfl, rfl, by simp, by simp⟩
 ·unfold bestStep
  simp only [Bool.not_true, Bool.false_or]
  by_cases h : offHi b q < offHi b p
  ·rw [decide_eq_true h, cond_true]
   refine .inr ⟨l1 ++ p :: l2, q, [], rfl, rfl, fun x hx => ?_, by simp⟩
   rcases List.mem_append.1 hx with hx | hx
   ·have := h1 x hx; omega
   ·rcases List.mem_cons.1 hx with rfl | hx
    ·exact h
    ·have := h2 x hx; omega
  ·rw [decide_eq_false h, cond_false]
   refine .inr ⟨l1, p, l2 ++ [q], by simp, rfl, h1, fun x hx => ?_⟩
   rcases List.mem_append.1 hx with hx | hx
   ·exact h2 x hx
   ·rw [List.mem_singleton] at hx; subst hx; omega
theorem best_fold {b : HairBook} : ∀ (l pre : List (List Int)) (s : List Int × Int × Bool), BestI b pre s → BestI b (pre ++ l) (l.foldl (bestStep b) s)
 | [], pre, s, h => by simpa using h
 | q :: l, pre, s, h => by
  rw [List.foldl_cons, show pre ++ q :: l = (pre ++ [q]) ++ l by simp]
  exact best_fold l _ _ (best_step h q)
theorem bestO_spec (b : HairBook) : (bestO b = none ∧ plansL b (·.Low) = []) ∨ ∃ p l1 l2, bestO b = some p ∧ plansL b (·.Low) = l1 ++ p :: l2 ∧ (∀ q, q ∈ l1 → offHi b p < offHi b q) ∧ ∀ q, q ∈ l2 → offHi b p ≤ offHi b q := by
 have := best_fold (b := b) (plansL b (·.Low)) [] ([], 0, false) (.inl ⟨rfl, rfl⟩)
 rw [List.nil_append] at this
 unfold bestO bestT
 rcases this with ⟨h1, h2⟩ | ⟨l1, p, l2, h1, h2, h3, h4⟩
 ·left
  rw [h2]
  exact ⟨rfl, h1⟩
 ·right
  rw [h2]
  exact ⟨p, l1, l2, rfl, h1, h3, h4⟩
theorem bestO_none {b : HairBook} (h : bestO b = none) : servedB b = false := by
 rcases bestO_spec b with ⟨_, h2⟩ | ⟨p, l1, l2, h1, _⟩
 ·unfold servedB; rw [h2]; rfl
 ·rw [h] at h1; cases h1
theorem bestO_some {b : HairBook} {p : List Int} (h : bestO b = some p) : planB b p = true ∧ worksB b p = true := by
 rcases bestO_spec b with ⟨h1, _⟩ | ⟨q, l1, l2, h1, h2, _⟩
 ·rw [h] at h1; cases h1
 ·rw [h] at h1; cases h1
  exact mem_plans.1 (by rw [h2]; simp)
theorem bestO_isSome (b : HairBook) : (bestO b).isSome = servedB b := by
 cases h : bestO b with
 | none => rw [bestO_none h]; rfl
 | some p => exact (served_iff.2 ⟨p, bestO_some h⟩).symm
theorem p81 {b : HairBook} (ok : OkH b) {mf : List (Hair_dye × Span)} (hmf : ShOk b mf) : g81 b mf = some ((bestT b).1, (bestT b).2.2) := by
 unfold g81 g76 g88
 rw [bsm, bsm]
 simp only
 rw [p111 _ ok hmf]
 have := runY_fold (B := fun q u => g81_r5 b mf (q, cutF b q) u) (X := Unit) (bestStep b) (plansL b (·.Low)) ([], 0, false) (fun q s hq => by
  have hp := plan_of (mem_plans.1 hq).1
  obtain ⟨v, v1, v2⟩ := s
  have e : g75a b mf (cutF b q) = some (offHi b q) := p75_core ok hp (w := cutF b q) (fun k => rfl) (fun x hx => by have := (ok.hanks x hx).w; omega) (fun k x n => rfl)
  unfold g81_r5 bestStep
  simp only [g77, e, bsm]
  cases (!v2 || decide (offHi b q < v1)) <;> rfl)
 have e : runY (fun q s => rndC (g81_r5 b mf) (q, cutF b q) s) (plansL b (·.Low)) (.next ([], 0, false)) = runY (fun a s => rndC (fun q u => g81_r5 b mf (q, cutF b q) u) a s) (plansL b (·.Low)) (.next ([], 0, false)) := by
  congr 1
 rw [e, this]
 rfl
def bestR (b : HairBook) : List Int × Int := bif okH b then (match bestO b with | some p => (p, 0) | none => ([], 4)) else ([], 60)
theorem p26 (b : HairBook) : g26 b = some (bestR b) := by
 unfold g26 bestR
 rw [p17, bsm]
 cases hok : okH b with
 | false => rfl
 | true =>
  have ok := okH_of hok
  obtain ⟨mf, e80, hmf⟩ := p80 ok
  simp only [cond_true, ne_eq, not_true_eq_false, decide_false, cond_false, e80, bsm, p81 ok hmf]
  unfold bestO
  cases (bestT b).2.2 with
  | false => rfl
  | true => simp only [Bool.not_true, cond_false, cond_true, slcL_all, bsm]
end Go.Proofs.YtonjadhpjkbhnaaDoor
set_option maxRecDepth 100000
namespace Go.Proofs.YtonjadhpjkbhnaaDoor
open Go Go.Abs Go.Proofs.Th
def LT (H s : Nat) : List Int := (g48 (s : Int) (H : Int)).getD []
def rk (H s : Nat) : Nat := ((List.range (2 ^ H)).filter fun t => g49 (LT H t) (LT H s) == some true).length
def keepL (xs : List HairHorse) (l : List Int) : List HairHorse := (xs.zipIdx.filter fun y => !decide ((y.2 : Int) ∈ l)).map (·.1)
def cmpP (l best : List Int) : Option Bool := bif (decide ((best.length : Int) < (l.length : Int))) then (some true) else (bif (decide ((l.length : Int) = (best.length : Int))) then ((g83 l best).bind fun r0_3 => some (decide (0 ≤ r0_3))) else (some false))
theorem factC : ((List.range 4).all fun T => (List.range (2 ^ T)).all fun s => (List.range (2 ^ T)).all fun t => cmpP (LT T s) (LT T t) == some (!decide (rk T s < rk T t))) = true := by kernel_rfl
theorem factU : ((List.range 4).all fun T => (List.range (2 ^ T)).all fun s => (List.range (2 ^ T)).all fun t => decide (s = t) || !decide (rk T s = rk T t)) = true := by kernel_rfl
theorem factS : ((List.range 4).all fun T => shl64 1 (T : Int) == ((2 ^ T : Nat) : Int)) = true := by kernel_rfl
theorem fact0 : ((List.range 4).all fun T => (LT T 0 == []) && (rk T 0 == 0) && ((LT T (2 ^ T - 1)).length == T) && ((List.range (2 ^ T)).all fun s => (s == 0) || !((LT T s).length == 0))) = true := by kernel_rfl
theorem all2 {P : Nat → Nat → Bool} (h : ((List.range 4).all fun T => (List.range (2 ^ T)).all fun s => P T s) = true) {T s : Nat} (hT : T ≤ 3) (hs : s < 2 ^ T) : P T s = true := by
 rw [List.all_eq_true] at h
 have := h T (List.mem_range.2 (by omega))
 rw [List.all_eq_true] at this
 exact this s (List.mem_range.2 hs)
theorem all3 {P : Nat → Nat → Nat → Bool} (h : ((List.range 4).all fun T => (List.range (2 ^ T)).all fun s => (List.range (2 ^ T)).all fun t => P T s t) = true) {T s t : Nat} (hT : T ≤ 3) (hs : s < 2 ^ T) (ht : t < 2 ^ T) : P T s t = true := by
 have := all2 h hT hs
 rw [List.all_eq_true] at this
 exact this t (List.mem_range.2 ht)
theorem fC {T s t : Nat} (hT : T ≤ 3) (hs : s < 2 ^ T) (ht : t < 2 ^ T) : cmpP (LT T s) (LT T t) = some (!decide (rk T s < rk T t)) := by
 have := all3 factC hT hs ht
 rw [beq_iff_eq] at this; exact this
theorem fU {T s t : Nat} (hT : T ≤ 3) (hs : s < 2 ^ T) (ht : t < 2 ^ T) (h : rk T s = rk T t) : s = t := by
 have := all3 factU hT hs ht
 rw [Bool.or_eq_true, Bool.not_eq_true', decide_eq_true_eq, decide_eq_false_iff_not] at this
 exact this.resolve_right fun hc => hc h
theorem fS {T : Nat} (hT : T ≤ 3) : shl64 1 (T : Int) = ((2 ^ T : Nat) : Int) := by
 have := factS
 rw [List.all_eq_true] at this
 have := this T (List.mem_range.2 (by omega))
 rw [beq_iff_eq] at this; exact this
theorem f0 {T : Nat} (hT : T ≤ 3) : LT T 0 = [] ∧ rk T 0 = 0 ∧ (LT T (2 ^ T - 1)).length = T ∧ ∀ s, s < 2 ^ T → (LT T s).length = 0 → s = 0 := by
 have := fact0
 rw [List.all_eq_true] at this
 have := this T (List.mem_range.2 (by omega))
 rw [Bool.and_eq_true, Bool.and_eq_true, Bool.and_eq_true, beq_iff_eq, beq_iff_eq, beq_iff_eq, List.all_eq_true] at this
 obtain ⟨⟨⟨h1, h2⟩, h3⟩, h4⟩ := this
 refine ⟨h1, h2, h3, fun s hs h => ?_⟩
 have := h4 s (List.mem_range.2 hs)
 rw [Bool.or_eq_true, beq_iff_eq, h] at this
 simpa using this
theorem pow_pos' (T : Nat) : 1 ≤ 2 ^ T := Nat.one_le_two_pow
theorem pow_le' {T : Nat} (hT : T ≤ 3) : 2 ^ T ≤ 8 := Nat.pow_le_pow_right (by decide) hT
theorem ks0_0 : eachS (g29_14 0) ([] : List HairHorse) 0 (([], []) : List Int × List HairHorse) = some (LT 0 0, keepL [] (LT 0 0)) := by kernel_rfl
theorem kl0_0 : (keepL [] (LT 0 0)).length + (LT 0 0).length = 0 := by kernel_rfl
theorem ks1_0 (a : HairHorse) : eachS (g29_14 0) ([a] : List HairHorse) 0 (([], []) : List Int × List HairHorse) = some (LT 1 0, keepL [a] (LT 1 0)) := by kernel_rfl
theorem kl1_0 (a : HairHorse) : (keepL [a] (LT 1 0)).length + (LT 1 0).length = 1 := by kernel_rfl
theorem ks1_1 (a : HairHorse) : eachS (g29_14 1) ([a] : List HairHorse) 0 (([], []) : List Int × List HairHorse) = some (LT 1 1, keepL [a] (LT 1 1)) := by kernel_rfl
theorem kl1_1 (a : HairHorse) : (keepL [a] (LT 1 1)).length + (LT 1 1).length = 1 := by kernel_rfl
theorem ks2_0 (a b : HairHorse) : eachS (g29_14 0) ([a, b] : List HairHorse) 0 (([], []) : List Int × List HairHorse) = some (LT 2 0, keepL [a, b] (LT 2 0)) := by kernel_rfl
theorem kl2_0 (a b : HairHorse) : (keepL [a, b] (LT 2 0)).length + (LT 2 0).length = 2 := by kernel_rfl
theorem ks2_1 (a b : HairHorse) : eachS (g29_14 1) ([a, b] : List HairHorse) 0 (([], []) : List Int × List HairHorse) = some (LT 2 1, keepL [a, b] (LT 2 1)) := by kernel_rfl
theorem kl2_1 (a b : HairHorse) : (keepL [a, b] (LT 2 1)).length + (LT 2 1).length = 2 := by kernel_rfl
theorem ks2_2 (a b : HairHorse) : eachS (g29_14 2) ([a, b] : List HairHorse) 0 (([], []) : List Int × List HairHorse) = some (LT 2 2, keepL [a, b] (LT 2 2)) := by kernel_rfl
theorem kl2_2 (a b : HairHorse) : (keepL [a, b] (LT 2 2)).length + (LT 2 2).length = 2 := by kernel_rfl
theorem ks2_3 (a b : HairHorse) : eachS (g29_14 3) ([a, b] : List HairHorse) 0 (([], []) : List Int × List HairHorse) = some (LT 2 3, keepL [a, b] (LT 2 3)) := by kernel_rfl
theorem kl2_3 (a b : HairHorse) : (keepL [a, b] (LT 2 3)).length + (LT 2 3).length = 2 := by kernel_rfl
theorem ks3_0 (a b c : HairHorse) : eachS (g29_14 0) ([a, b, c] : List HairHorse) 0 (([], []) : List Int × List HairHorse) = some (LT 3 0, keepL [a, b, c] (LT 3 0)) := by kernel_rfl
theorem kl3_0 (a b c : HairHorse) : (keepL [a, b, c] (LT 3 0)).length + (LT 3 0).length = 3 := by kernel_rfl
theorem ks3_1 (a b c : HairHorse) : eachS (g29_14 1) ([a, b, c] : List HairHorse) 0 (([], []) : List Int × List HairHorse) = some (LT 3 1, keepL [a, b, c] (LT 3 1)) := by kernel_rfl
theorem kl3_1 (a b c : HairHorse) : (keepL [a, b, c] (LT 3 1)).length + (LT 3 1).length = 3 := by kernel_rfl
theorem ks3_2 (a b c : HairHorse) : eachS (g29_14 2) ([a, b, c] : List HairHorse) 0 (([], []) : List Int × List HairHorse) = some (LT 3 2, keepL [a, b, c] (LT 3 2)) := by kernel_rfl
theorem kl3_2 (a b c : HairHorse) : (keepL [a, b, c] (LT 3 2)).length + (LT 3 2).length = 3 := by kernel_rfl
theorem ks3_3 (a b c : HairHorse) : eachS (g29_14 3) ([a, b, c] : List HairHorse) 0 (([], []) : List Int × List HairHorse) = some (LT 3 3, keepL [a, b, c] (LT 3 3)) := by kernel_rfl
theorem kl3_3 (a b c : HairHorse) : (keepL [a, b, c] (LT 3 3)).length + (LT 3 3).length = 3 := by kernel_rfl
theorem ks3_4 (a b c : HairHorse) : eachS (g29_14 4) ([a, b, c] : List HairHorse) 0 (([], []) : List Int × List HairHorse) = some (LT 3 4, keepL [a, b, c] (LT 3 4)) := by kernel_rfl
theorem kl3_4 (a b c : HairHorse) : (keepL [a, b, c] (LT 3 4)).length + (LT 3 4).length = 3 := by kernel_rfl
theorem ks3_5 (a b c : HairHorse) : eachS (g29_14 5) ([a, b, c] : List HairHorse) 0 (([], []) : List Int × List HairHorse) = some (LT 3 5, keepL [a, b, c] (LT 3 5)) := by kernel_rfl
theorem kl3_5 (a b c : HairHorse) : (keepL [a, b, c] (LT 3 5)).length + (LT 3 5).length = 3 := by kernel_rfl
theorem ks3_6 (a b c : HairHorse) : eachS (g29_14 6) ([a, b, c] : List HairHorse) 0 (([], []) : List Int × List HairHorse) = some (LT 3 6, keepL [a, b, c] (LT 3 6)) := by kernel_rfl
theorem kl3_6 (a b c : HairHorse) : (keepL [a, b, c] (LT 3 6)).length + (LT 3 6).length = 3 := by kernel_rfl
theorem ks3_7 (a b c : HairHorse) : eachS (g29_14 7) ([a, b, c] : List HairHorse) 0 (([], []) : List Int × List HairHorse) = some (LT 3 7, keepL [a, b, c] (LT 3 7)) := by kernel_rfl
theorem kl3_7 (a b c : HairHorse) : (keepL [a, b, c] (LT 3 7)).length + (LT 3 7).length = 3 := by kernel_rfl
theorem ks {xs : List HairHorse} (hl : xs.length ≤ 3) {s : Nat} (hs : s < 2 ^ xs.length) : eachS (g29_14 (s : Int)) xs 0 (([], []) : List Int × List HairHorse) = some (LT xs.length s, keepL xs (LT xs.length s)) := by
 match xs, hl, s, hs with
 | [], _, 0, _ => exact ks0_0
 | [], _, s + 1, hs => exact absurd hs (by simp)
 | [a], _, 0, _ => exact ks1_0 a
 | [a], _, 1, _ => exact ks1_1 a
 | [a], _, s + 2, hs => exact absurd hs (by simp)
 | [a, b], _, 0, _ => exact ks2_0 a b
 | [a, b], _, 1, _ => exact ks2_1 a b
 | [a, b], _, 2, _ => exact ks2_2 a b
 | [a, b], _, 3, _ => exact ks2_3 a b
 | [a, b], _, s + 4, hs => exact absurd hs (by simp)
 | [a, b, c], _, 0, _ => exact ks3_0 a b c
 | [a, b, c], _, 1, _ => exact ks3_1 a b c
 | [a, b, c], _, 2, _ => exact ks3_2 a b c
 | [a, b, c], _, 3, _ => exact ks3_3 a b c
 | [a, b, c], _, 4, _ => exact ks3_4 a b c
 | [a, b, c], _, 5, _ => exact ks3_5 a b c
 | [a, b, c], _, 6, _ => exact ks3_6 a b c
 | [a, b, c], _, 7, _ => exact ks3_7 a b c
 | [a, b, c], _, s + 8, hs => exact absurd hs (by simp)
 | _ :: _ :: _ :: _ :: _, hl, _, _ => exact absurd hl (by simp)
theorem kl {xs : List HairHorse} (hl : xs.length ≤ 3) {s : Nat} (hs : s < 2 ^ xs.length) : (keepL xs (LT xs.length s)).length + (LT xs.length s).length = xs.length := by
 match xs, hl, s, hs with
 | [], _, 0, _ => exact kl0_0
 | [], _, s + 1, hs => exact absurd hs (by simp)
 | [a], _, 0, _ => exact kl1_0 a
 | [a], _, 1, _ => exact kl1_1 a
 | [a], _, s + 2, hs => exact absurd hs (by simp)
 | [a, b], _, 0, _ => exact kl2_0 a b
 | [a, b], _, 1, _ => exact kl2_1 a b
 | [a, b], _, 2, _ => exact kl2_2 a b
 | [a, b], _, 3, _ => exact kl2_3 a b
 | [a, b], _, s + 4, hs => exact absurd hs (by simp)
 | [a, b, c], _, 0, _ => exact kl3_0 a b c
 | [a, b, c], _, 1, _ => exact kl3_1 a b c
 | [a, b, c], _, 2, _ => exact kl3_2 a b c
 | [a, b, c], _, 3, _ => exact kl3_3 a b c
 | [a, b, c], _, 4, _ => exact kl3_4 a b c
 | [a, b, c], _, 5, _ => exact kl3_5 a b c
 | [a, b, c], _, 6, _ => exact kl3_6 a b c
 | [a, b, c], _, 7, _ => exact kl3_7 a b c
 | [a, b, c], _, s + 8, hs => exact absurd hs (by simp)
 | _ :: _ :: _ :: _ :: _, hl, _, _ => exact absurd hl (by simp)
def woS (b : HairBook) (s : Nat) : HairBook := ⟨b.Hanks, keepL b.Horses (LT b.Horses.length s), b.Dark, b.Near, b.Match⟩
theorem keepL_mem {xs : List HairHorse} {l : List Int} {x : HairHorse} (h : x ∈ keepL xs l) : x ∈ xs := by
 unfold keepL at h
 rw [List.mem_map] at h
 obtain ⟨y, hy, rfl⟩ := h
 have hm := (List.mem_filter.1 hy).1
 rw [List.mem_iff_getElem?] at hm
 obtain ⟨k, hk⟩ := hm
 rw [List.getElem?_zipIdx] at hk
 cases hx : xs[k]? with
 | none => rw [hx] at hk; cases hk
 | some z =>
  rw [hx] at hk
  simp only [Option.map_some, Option.some.injEq] at hk
  rw [← hk]
  exact List.mem_of_getElem? hx
theorem keepL_nil (xs : List HairHorse) : keepL xs [] = xs := by
 unfold keepL
 have : (xs.zipIdx.filter fun y => !decide ((y.2 : Int) ∈ ([] : List Int))) = xs.zipIdx := List.filter_eq_self.2 (fun y _ => by simp)
 rw [this]
 apply List.ext_getElem?
 intro k
 rw [List.getElem?_map, List.getElem?_zipIdx]
 cases xs[k]? <;> rfl
theorem keepL_len (xs : List HairHorse) (l : List Int) : (keepL xs l).length ≤ xs.length := by
 unfold keepL
 rw [List.length_map]
 exact Nat.le_trans (List.length_filter_le _ _) (by rw [List.length_zipIdx]; exact Nat.le_refl _)
theorem okW {b : HairBook} (hok : okH b = true) (s : Nat) : okH (woS b s) = true := by
 have hl := keepL_len b.Horses (LT b.Horses.length s)
 unfold okH at hok ⊢
 simp only [Bool.and_eq_true, decide_eq_true_eq, List.all_eq_true] at hok ⊢
 obtain ⟨⟨⟨⟨⟨⟨h1, h2⟩, h3⟩, h4⟩, h5⟩, h6⟩, h7⟩ := hok
 refine ⟨⟨⟨⟨⟨⟨h1, ?_⟩, h3⟩, h4⟩, h5⟩, h6⟩, fun x hx => h7 x (keepL_mem hx)⟩
 simp only [woS]
 omega
theorem wo0 {b : HairBook} (hl : b.Horses.length ≤ 3) : woS b 0 = b := by
 unfold woS
 rw [(f0 hl).1, keepL_nil]
theorem served_none {b : HairBook} (ok : OkH b) (h : b.Horses.length = 0) : servedB b = true := by
 rw [served_iff]
 refine ⟨[], planB_iff.2 ⟨by simp [h], by simp⟩, ?_⟩
 have : b.Horses = [] := List.length_eq_zero_iff.1 h
 have hf := okP_nil (b := b) (by_ := fun s => s.Low) (fun x hx => by have := (ok.hanks x hx).w; omega)
 unfold okP at hf
 rw [Bool.and_eq_true] at hf
 unfold worksB dyeK
 rw [this]
 rw [show fitK b [] = fitP b (fun s => s.Low) [] from rfl, hf.1]
 rfl
theorem served_all {b : HairBook} (hok : okH b = true) : servedB (woS b (2 ^ b.Horses.length - 1)) = true := by
 have ok := okH_of hok
 have h3 := ok.l3
 have hp := pow_pos' b.Horses.length
 refine served_none (okH_of (okW hok _)) ?_
 have := kl h3 (s := 2 ^ b.Horses.length - 1) (by omega)
 rw [(f0 h3).2.2.1] at this
 unfold woS
 simp only
 omega
structure LackIs (b : HairBook) (t : Nat) : Prop where
 lt : t < 2 ^ b.Horses.length
 sv : servedB (woS b t) = true
 le : ∀ u, u < 2 ^ b.Horses.length → servedB (woS b u) = true → rk b.Horses.length t ≤ rk b.Horses.length u
def LackInv (b : HairBook) (i : Int) (s : List Int × Bool) : Prop := (s = ([], false) ∧ ∀ u : Nat, (u : Int) < i → servedB (woS b u) = false) ∨
 ∃ t : Nat, s = (LT b.Horses.length t, true) ∧ t < 2 ^ b.Horses.length ∧ servedB (woS b t) = true ∧ ∀ u : Nat, (u : Int) < i → servedB (woS b u) = true → rk b.Horses.length t ≤ rk b.Horses.length u
theorem p29_8 {b : HairBook} (hok : okH b = true) {s : Nat} (hs : s < 2 ^ b.Horses.length) {st : List Int × Bool} (hI : LackInv b s st) : ∃ st', g29_8 b (s : Int) st = some st' ∧ LackInv b ((s : Int) + 1) st' := by
 have ok := okH_of hok
 have h3 := ok.l3
 have okw := okH_of (okW hok s)
 obtain ⟨mf, e80, hmf⟩ := p80 okw
 have hmk : HairBook.mk b.Hanks (keepL b.Horses (LT b.Horses.length s)) b.Dark b.Near b.Match = woS b s := rfl
 rcases hI with ⟨rfl, hI⟩ | ⟨t, rfl, ht, hsv, hle⟩
 ·have he : g29_8 b (s : Int) ([], false) = some (bif servedB (woS b s) then (LT b.Horses.length s, true) else ([], false)) := by
   unfold g29_8
   rw [ks h3 hs]
   simp only [bsm, cond_false, hmk, e80, p84 okw hmf]
   cases servedB (woS b s) <;> rfl
  refine ⟨_, he, ?_⟩
  cases hv : servedB (woS b s) with
  | true =>
   refine .inr ⟨s, rfl, hs, hv, fun u hu hsu => ?_⟩
   by_cases e : u = s
   ·subst e; exact Nat.le_refl _
   ·have := hI u (by omega); rw [hsu] at this; cases this
  | false =>
   refine .inl ⟨rfl, fun u hu => ?_⟩
   by_cases e : u = s
   ·subst e; exact hv
   ·exact hI u (by omega)
 ·have hc := fC h3 hs ht
  have he : g29_8 b (s : Int) (LT b.Horses.length t, true) = some (bif decide (rk b.Horses.length s < rk b.Horses.length t) && servedB (woS b s) then (LT b.Horses.length s, true) else (LT b.Horses.length t, true)) := by
   unfold g29_8
   rw [ks h3 hs]
   simp only [bsm, cond_true]
   have key : ∀ {X : Option Bool} {F : Bool → Option (List Int × Bool)} {v : Bool}, X = some v → X.bind F = F v := by
    intro X F v h; rw [h]; rfl
   refine Eq.trans (key hc) ?_
   cases decide (rk b.Horses.length s < rk b.Horses.length t) with
   | false => rfl
   | true =>
    simp only [Bool.not_true, cond_false, hmk, e80, bsm, p84 okw hmf, Bool.true_and]
    cases servedB (woS b s) <;> rfl
  refine ⟨_, he, ?_⟩
  by_cases h1 : rk b.Horses.length s < rk b.Horses.length t
  ·rw [decide_eq_true h1, Bool.true_and]
   cases hv : servedB (woS b s) with
   | true =>
    refine .inr ⟨s, rfl, hs, hv, fun u hu hsu => ?_⟩
    by_cases e : u = s
    ·subst e; exact Nat.le_refl _
    ·have := hle u (by omega) hsu; omega
   | false =>
    refine .inr ⟨t, rfl, ht, hsv, fun u hu hsu => ?_⟩
    by_cases e : u = s
    ·subst e; rw [hv] at hsu; cases hsu
    ·exact hle u (by omega) hsu
  ·rw [decide_eq_false h1, Bool.false_and]
   refine .inr ⟨t, rfl, ht, hsv, fun u hu hsu => ?_⟩
   by_cases e : u = s
   ·subst e; omega
   ·exact hle u (by omega) hsu
theorem p29 {b : HairBook} (hok : okH b = true) : ∃ t, LackIs b t ∧ g29 b = some (LT b.Horses.length t, 0) := by
 have ok := okH_of hok
 have h3 := ok.l3
 have hp := pow_pos' b.Horses.length
 have hp8 := pow_le' h3
 obtain ⟨st, e, hI⟩ := forS_inv (f := g29_8 b) (LackInv b) (2 ^ b.Horses.length) 0 ([], false) (.inl ⟨rfl, fun u hu => by omega⟩) (fun j s h1 h2 hs => by
  obtain ⟨k, rfl⟩ : ∃ k : Nat, j = (k : Int) := ⟨j.toNat, by omega⟩
  exact p29_8 hok (by omega) hs)
 rcases hI with ⟨rfl, hI⟩ | ⟨t, rfl, ht, hsv, hle⟩
 ·have := hI (2 ^ b.Horses.length - 1) (by omega)
  rw [served_all hok] at this; cases this
 ·refine ⟨t, ⟨ht, hsv, fun u hu h => hle u (by omega) h⟩, ?_⟩
  unfold g29
  rw [p17, hok, bsm]
  simp only [cond_true, ne_eq, not_true_eq_false, decide_false, cond_false]
  rw [must_t (by rw [decide_eq_true_eq]; omega), bsm, fS h3, must_t (by rw [decide_eq_true_eq]; omega), bsm, show (((2 ^ b.Horses.length : Nat) : Int) - 0).toNat = 2 ^ b.Horses.length by omega, e, bsm]
  simp only [slcL_all, bsm]
theorem best_err {b : HairBook} (hok : okH b = true) : ∃ l, bestR b = (l, bif servedB b then 0 else 4) ∧ (servedB b = false → l = []) := by
 unfold bestR
 rw [hok, cond_true, ← bestO_isSome]
 cases bestO b with
 | none => exact ⟨_, rfl, fun _ => rfl⟩
 | some p => exact ⟨_, rfl, fun h => by cases h⟩
def lexB : List Int → List Int → Bool
 | [], [] => false
 | [], _ :: _ => true
 | _ :: _, [] => false
 | x :: l, y :: m => bif decide (x = y) then lexB l m else decide (x < y)
theorem lexB_irr : ∀ l, lexB l l = false
 | [] => rfl
 | x :: l => by rw [lexB, decide_eq_true rfl, cond_true, lexB_irr l]
theorem lexB_asym : ∀ l m, lexB l m = true → lexB m l = false
 | [], [], h => rfl
 | [], _ :: _, h => rfl
 | _ :: _, [], h => by cases h
 | x :: l, y :: m, h => by
  rw [lexB] at h ⊢
  by_cases e : x = y
  ·subst e
   rw [decide_eq_true rfl, cond_true] at h ⊢
   exact lexB_asym l m h
  ·rw [decide_eq_false e, cond_false, decide_eq_true_eq] at h
   rw [decide_eq_false (fun h => e h.symm), cond_false, decide_eq_false_iff_not]
   omega
theorem lexB_app (p : List Int) {x y : Int} (h : x < y) (l m : List Int) : lexB (p ++ x :: l) (p ++ y :: m) = true := by
 induction p with
 | nil => rw [List.nil_append, List.nil_append, lexB, decide_eq_false (by omega), cond_false, decide_eq_true h]
 | cons z p ih => rw [List.cons_append, List.cons_append, lexB, decide_eq_true rfl, cond_true, ih]
theorem allp_sorted {K : Nat} : ∀ (n : Nat) (p : List Int), (allp K n p).Pairwise fun q r => lexB q r = true
 | 0, p => by rw [allp]; exact List.pairwise_singleton _ _
 | n + 1, p => by
  rw [allp, List.pairwise_flatMap]
  refine ⟨fun k _ => allp_sorted n _, ?_⟩
  refine List.Pairwise.imp ?_ (List.pairwise_lt_range' (s := 0) (n := K))
  intro i j hij q hq r hr
  obtain ⟨l, rfl, _⟩ := mem_allp.1 hq
  obtain ⟨m, rfl, _⟩ := mem_allp.1 hr
  rw [List.append_assoc, List.append_assoc]
  exact lexB_app p (by omega) l m
theorem plans_sorted (b : HairBook) (by_ : Span → Int) : (plansL b by_).Pairwise fun q r => lexB q r = true := List.Pairwise.filter _ (allp_sorted _ _)
theorem p45_loop (l m : List Int) (hl : l.length < 900) : ∀ (n i k : Nat), i + n = l.length → n + 2 ≤ k → ∃ c : Ctl Unit (Ctl Unit Bool), whileC (g45_3 l m) k (i : Int) = some c ∧ (match c with | .next _ => lexB (l.drop i) (m.drop i) = decide (l.length < m.length) | .brk (.brk v) => v = lexB (l.drop i) (m.drop i) | .brk (.next _) => False)
 | 0, i, k, hi, hk => by
  obtain ⟨k, rfl⟩ : ∃ j, k = j + 1 := ⟨k - 1, by omega⟩
  refine ⟨.next (), ?_, ?_⟩
  ·rw [whileC]
   simp only [g45_3]
   rw [decide_eq_false (show ¬ (i : Int) < (l.length : Int) by omega)]
   rfl
  ·simp only
   rw [List.drop_eq_nil_of_le (show l.length ≤ i by omega)]
   by_cases h : i < m.length
   ·rw [List.drop_eq_getElem_cons h, lexB, decide_eq_true (by omega)]
   ·rw [List.drop_eq_nil_of_le (by omega), lexB, decide_eq_false (by omega)]
 | n + 1, i, k, hi, hk => by
  obtain ⟨k, rfl⟩ : ∃ j, k = j + 1 := ⟨k - 1, by omega⟩
  have h1 : i < l.length := by omega
  rw [whileC]
  simp only [g45_3]
  rw [decide_eq_true (show (i : Int) < (l.length : Int) by omega), cond_true, bsm]
  by_cases h2 : i < m.length
  ·rw [decide_eq_true (show (i : Int) < (m.length : Int) by omega), cond_true, ixL_nat, ixL_nat, List.getElem?_eq_getElem h1, List.getElem?_eq_getElem h2, bsm, bsm, List.drop_eq_getElem_cons h1, List.drop_eq_getElem_cons h2]
   by_cases e : l[i] = m[i]
   ·obtain ⟨c, e1, e2⟩ := p45_loop l m hl n (i + 1) k (by omega) (by omega)
    refine ⟨c, ?_, ?_⟩
    ·rw [decide_eq_false (show ¬ l[i] ≠ m[i] from fun h => h e), cond_false, bsm, wr_nat (by omega)]
     exact e1
    ·rw [lexB, decide_eq_true e, cond_true]
     exact e2
   ·refine ⟨.brk (.brk (decide (l[i] < m[i]))), ?_, ?_⟩
    ·rw [decide_eq_true (show l[i] ≠ m[i] from e), cond_true]
     rfl
    ·simp only
     rw [lexB, decide_eq_false e, cond_false]
  ·refine ⟨.next (), ?_, ?_⟩
   ·rw [decide_eq_false (show ¬ (i : Int) < (m.length : Int) by omega), cond_false]
    rfl
   ·simp only
    rw [List.drop_eq_nil_of_le (show m.length ≤ i by omega), List.drop_eq_getElem_cons h1, lexB, decide_eq_false (by omega)]
theorem p45 (l m : List Int) (hl : l.length < 900) : g45 l m = some (lexB l m) := by
 obtain ⟨c, e1, e2⟩ := p45_loop l m hl l.length 0 1000 (by omega) (by omega)
 rw [show ((0 : Nat) : Int) = 0 from rfl] at e1
 unfold g45
 rw [e1]
 simp only [List.drop_zero] at e2
 match c, e2 with
 | .next _, e2 =>
  simp only at e2
  simp only [bindC]
  rw [e2]
  congr 1
  rw [Bool.eq_iff_iff, decide_eq_true_eq, decide_eq_true_eq]
  omega
 | .brk (.brk v), e2 =>
  simp only at e2
  rw [e2]; rfl
 | .brk (.next _), e2 => exact e2.elim
theorem plain8 (b : HairBook) (o : List Int) (ho : o.length ≤ maxLen) : g8 b o = some true := by
 unfold g8
 rw [p35, bsm]
 cases hok : okH b with
 | false => simp only [Bool.not_false, cond_true, matched_ok, bsm]
 | true =>
  have ok := okH_of hok
  have h3 := ok.l3
  have h4 := ok.l4
  have hp := pow_pos' b.Horses.length
  obtain ⟨f1, f2, f3, f4⟩ := f0 h3
  obtain ⟨t, ht, e⟩ := p29 hok
  obtain ⟨l, hl, hl0⟩ := best_err hok
  have hlack : decide (((LT b.Horses.length t).length : Int) = 0) = servedB b := by
   cases hv : servedB b with
   | true =>
    have h := ht.le 0 (by omega) (by rw [wo0 h3]; exact hv)
    have : t = 0 := fU h3 ht.lt (by omega) (by omega)
    rw [this, f1]; rfl
   | false =>
    rw [decide_eq_false_iff_not]
    intro hc
    have := f4 t ht.lt (by omega)
    have hs := ht.sv
    rw [this, wo0 h3, hv] at hs; cases hs
  simp only [Bool.not_true, cond_false, p26, bsm, e]
  rw [hl]
  simp only [hlack]
  have hpre : (bif servedB b then (0 : Int) else 4) = 0 ↔ servedB b = true := by cases servedB b <;> simp
  have hve : decide ((bif servedB b then (0 : Int) else 4) = 0) = servedB b := by cases servedB b <;> rfl
  have hve2 : decide ((bif servedB b then (0 : Int) else 4) ≠ 0) = !servedB b := by cases servedB b <;> rfl
  have hve3 : decide ((bif servedB b then (0 : Int) else 4) ≠ 4) = servedB b := by cases servedB b <;> rfl
  rw [hve, hve2, hve3]
  have hln : servedB b = false → decide ((l.length : Int) ≠ 0) = false := fun h => by rw [hl0 h]; rfl
  have hfst : ((bif decide ((0 : Int) ≠ 0) then some true else some (true != (servedB b == servedB b))).bind fun v => (bif v then some true else bif !servedB b then (bif servedB b then some true else some (decide ((l.length : Int) ≠ 0))) else some false)) = some false := by
   cases hv : servedB b with
   | true => rfl
   | false => rw [hln hv]; rfl
  have key : ∀ {X : Option Bool} {F : Bool → Option Bool} {R : Option Bool}, X = some false → F false = R → X.bind F = R := by
   intro X F R h1 h2; rw [h1]; exact h2
  rw [← Option.bind_assoc]
  refine key hfst ?_
  simp only [cond_false]
  by_cases e0 : (b.Hanks.length : Int) = 0
  ·have hn : ((LT b.Horses.length t).length : Int) = (b.Horses.length : Int) := by
    have hk := kl h3 ht.lt
    obtain ⟨p, q1, q2⟩ := served_iff.1 ht.sv
    obtain ⟨q3, q4⟩ := planB_iff.1 q1
    have : p = [] := by
     cases p with
     | nil => rfl
     | cons x p =>
      have := q4 x (by simp)
      have e1 : (woS b t).Hanks = b.Hanks := rfl
      rw [e1] at this
      omega
    subst this
    have e2 : (woS b t).Horses = keepL b.Horses (LT b.Horses.length t) := rfl
    rw [e2, List.length_nil] at q3
    omega
   rw [decide_eq_true e0, decide_eq_true hn]
   simp [matched_ok, bsm]
  ·rw [decide_eq_false e0]
   obtain ⟨plan, ep, hpl⟩ := p36 ok (by omega) o (by unfold maxLen at ho; omega)
   have hwT : worksT b plan = (worksB b plan, 0) := by unfold worksT; rw [hok, hpl]; rfl
   simp only [cond_false, ep, bsm, p19, hwT, ne_eq, not_true_eq_false, decide_false, Bool.false_or]
   cases hw : worksB b plan with
   | false => simp [matched_ok, bsm]
   | true =>
    have hmem := mem_plans.2 ⟨hpl, hw⟩
    have hsv := served_iff.2 ⟨plan, hpl, hw⟩
    rcases bestO_spec b with ⟨_, hn⟩ | ⟨p, l1, l2, q1, q2, q3, q4⟩
    ·rw [hn] at hmem; cases hmem
    ·obtain ⟨b1, b2⟩ := bestO_some q1
     have hbr : l = p := by
      have : bestR b = (p, 0) := by unfold bestR; rw [hok, q1]; rfl
      rw [this] at hl
      exact (Prod.mk.inj hl).1.symm
     subst hbr
     have hso := plans_sorted b (fun s => s.Low)
     have o1 : offT b l = (⟨offS b l (·.Low) b.Hanks 0, offHi b l⟩, 0) := by unfold offT; rw [hok, b1, b2]; rfl
     have o2 : offT b plan = (⟨offS b plan (·.Low) b.Hanks 0, offHi b plan⟩, 0) := by unfold offT; rw [hok, hpl, hw]; rfl
     have hcmp : offHi b l < offHi b plan ∨ (offHi b l ≤ offHi b plan ∧ lexB plan l = false) := by
      rw [q2] at hmem hso
      rcases List.mem_append.1 hmem with h | h
      ·exact .inl (q3 plan h)
      ·rcases List.mem_cons.1 h with rfl | h
       ·exact .inr ⟨Int.le_refl _, lexB_irr _⟩
       ·refine .inr ⟨q4 plan h, lexB_asym _ _ ?_⟩
        rw [List.pairwise_append] at hso
        exact (List.pairwise_cons.1 hso.2.1).1 plan h
     have hlen := (planB_iff.1 hpl).1
     simp only [hsv, Bool.not_true, Bool.and_false, cond_false, p23, bsm, o1, o2, decide_true, Bool.and_self, cond_true, p45 plan l (by omega)]
     rcases hcmp with h | ⟨h, h'⟩
     ·rw [decide_eq_true h]
      simp [matched_ok, bsm]
     ·by_cases h1 : offHi b l < offHi b plan
      ·rw [decide_eq_true h1]
       simp [matched_ok, bsm]
      ·rw [decide_eq_false h1, decide_eq_true (show offHi b l = offHi b plan by omega), h']
       simp [matched_ok, bsm]
end Go.Proofs.YtonjadhpjkbhnaaDoor
