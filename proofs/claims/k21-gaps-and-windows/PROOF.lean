import PyProof.Rows.All
import Wide.All
import OpenK.AllK
import Wide.FinOn
import KE.KStateDown
import Lean
import HandS.ForMost
import HandS.Exc
import HandS.Codes
import HandS.Defaults
import HandS.HeadHook4
import PySem.Challenge.RW_dealtsums_k21_whole_gaps_and_windows_of
import HandS.Wide
import HandS.Style
import HandS.Conv
import HandS.IsInst
import HandS.SortInts
import HandS.SortRule
import HandS.RaiseMore
import HandS.OwnEq
import HandS.Walk
import HandS.ExcInit
import HandS.ExcField
import HandS.ExcIs
import HandS.ExcOwn
import HandS.Lambda
import KE.KExcSuper
import HandS.Head0
import HandS.Head1
import HandS.Head2
import HandS.HeadWalk
/-! Sums over 0 .. n-1, and sums of floors. Plain Lean. -/
set_option linter.all false
namespace K21

/-- f 0 + .. + f (n - 1) -/
def sumN : Nat → (Nat → Int) → Int
  | 0, _ => 0
  | n + 1, f => sumN n f + f n

def ind (p : Prop) [Decidable p] : Int := if p then 1 else 0
theorem ind_pos {p : Prop} [Decidable p] (h : p) : ind p = 1 := if_pos h
theorem ind_neg {p : Prop} [Decidable p] (h : ¬ p) : ind p = 0 := if_neg h
theorem ind_congr {p q : Prop} [Decidable p] [Decidable q] (h : p ↔ q) : ind p = ind q := by
  by_cases hp : p
  · rw [ind_pos hp, ind_pos (h.mp hp)]
  · rw [ind_neg hp, ind_neg (fun z => hp (h.mpr z))]

theorem sumN_congr : ∀ {n : Nat} {f g : Nat → Int}, (∀ k, k < n → f k = g k) → sumN n f = sumN n g
  | 0, _, _, _ => rfl
  | n + 1, f, g, h => by
    show sumN n f + f n = sumN n g + g n
    rw [sumN_congr (fun k hk => h k (by omega)), h n (by omega)]
theorem sumN_add : ∀ (n : Nat) (f g : Nat → Int), sumN n (fun k => f k + g k) = sumN n f + sumN n g
  | 0, _, _ => rfl
  | n + 1, f, g => by
    show sumN n (fun k => f k + g k) + (f n + g n) = (sumN n f + f n) + (sumN n g + g n)
    rw [sumN_add]; omega
theorem sumN_sub : ∀ (n : Nat) (f g : Nat → Int), sumN n (fun k => f k - g k) = sumN n f - sumN n g
  | 0, _, _ => rfl
  | n + 1, f, g => by
    show sumN n (fun k => f k - g k) + (f n - g n) = (sumN n f + f n) - (sumN n g + g n)
    rw [sumN_sub]; omega
theorem sumN_mul : ∀ (n : Nat) (c : Int) (f : Nat → Int), sumN n (fun k => c * f k) = c * sumN n f
  | 0, c, _ => (Int.mul_zero c).symm
  | n + 1, c, f => by
    show sumN n (fun k => c * f k) + c * f n = c * (sumN n f + f n)
    rw [sumN_mul, Int.mul_add]
theorem sumN_zero : ∀ (n : Nat), sumN n (fun _ => 0) = 0
  | 0 => rfl
  | n + 1 => by
    show sumN n (fun _ => 0) + 0 = 0
    rw [sumN_zero]; rfl
theorem sumN_const : ∀ (n : Nat) (c : Int), sumN n (fun _ => c) = n * c
  | 0, c => by simp [sumN]
  | n + 1, c => by
    show sumN n (fun _ => c) + c = ((n + 1 : Nat) : Int) * c
    rw [sumN_const, Int.natCast_add, Int.add_mul]; simp
theorem sumN_swap : ∀ (n m : Nat) (F : Nat → Nat → Int), sumN n (fun k => sumN m (fun j => F k j)) = sumN m (fun j => sumN n (fun k => F k j))
  | 0, m, F => (sumN_zero m).symm
  | n + 1, m, F => by
    show sumN n (fun k => sumN m (fun j => F k j)) + sumN m (fun j => F n j) = sumN m (fun j => sumN n (fun k => F k j) + F n j)
    rw [sumN_swap n m F, sumN_add]
theorem sumN_nonneg : ∀ {n : Nat} {f : Nat → Int}, (∀ k, k < n → 0 ≤ f k) → 0 ≤ sumN n f
  | 0, _, _ => Int.le_refl 0
  | n + 1, f, h => by
    have h1 := sumN_nonneg (n := n) (f := f) (fun k hk => h k (by omega))
    have h2 := h n (by omega)
    show 0 ≤ sumN n f + f n
    omega

/-- how many j below m are less than v -/
theorem count_lt : ∀ (m : Nat) (v : Int), 0 ≤ v → v ≤ m → sumN m (fun j => ind ((j : Int) < v)) = v
  | 0, v, h0, h1 => by simp [sumN]; omega
  | m + 1, v, h0, h1 => by
    show sumN m (fun j => ind ((j : Int) < v)) + ind ((m : Int) < v) = v
    by_cases h : (m : Int) < v
    · have e : v = ((m + 1 : Nat) : Int) := by omega
      have e2 : sumN m (fun j => ind ((j : Int) < v)) = sumN m (fun _ => 1) := sumN_congr fun k hk => ind_pos (by omega)
      rw [e2, sumN_const, ind_pos h]; omega
    · rw [count_lt m v h0 (by omega), ind_neg h]; omega
/-- how many k below n are greater than w -/
theorem count_gt (n : Nat) (w : Int) (h0 : -1 ≤ w) (h1 : w ≤ (n : Int) - 1) : sumN n (fun k => ind (w < (k : Int))) = (n : Int) - 1 - w := by
  have e : sumN n (fun k => ind (w < (k : Int))) = sumN n (fun k => 1 - ind ((k : Int) < w + 1)) := sumN_congr fun k hk => by
    by_cases h : w < (k : Int)
    · rw [ind_pos h, ind_neg (by omega)]; rfl
    · rw [ind_neg h, ind_pos (by omega)]; rfl
  rw [e, sumN_sub, sumN_const, count_lt n (w + 1) (by omega) (by omega)]; omega
theorem count_none {n : Nat} {P : Nat → Prop} [DecidablePred P] (h : ∀ k, k < n → ¬ P k) : sumN n (fun k => ind (P k)) = 0 := by
  rw [sumN_congr (g := fun _ => 0) fun k hk => ind_neg (h k hk), sumN_zero]
theorem count_one : ∀ {n : Nat} {P : Nat → Prop} [DecidablePred P] (k0 : Nat), k0 < n → P k0 → (∀ k, k < n → P k → k = k0) → sumN n (fun k => ind (P k)) = 1
  | 0, _, _, _, h, _, _ => absurd h (Nat.not_lt_zero _)
  | n + 1, P, _, k0, h, hp, hu => by
    show sumN n (fun k => ind (P k)) + ind (P n) = 1
    by_cases e : k0 = n
    · subst e
      rw [ind_pos hp, count_none (fun k hk q => by have := hu k (by omega) q; omega)]; rfl
    · have hn : ¬ P n := fun q => e (hu n (by omega) q).symm
      rw [ind_neg hn, count_one k0 (by omega) hp (fun k hk q => hu k (by omega) q)]; rfl

/-- the sum of k -/
theorem sumN_id (n : Nat) : 2 * sumN n (fun k => (k : Int)) = (n : Int) * ((n : Int) - 1) := by
  induction n with
  | zero => simp [sumN]
  | succ n ih =>
    have e : sumN (n + 1) (fun k => (k : Int)) = sumN n (fun k => (k : Int)) + (n : Int) := rfl
    rw [e, Int.mul_add, ih]
    have e2 : ((n + 1 : Nat) : Int) = (n : Int) + 1 := by omega
    rw [e2]
    simp only [Int.add_mul, Int.mul_add, Int.mul_sub]
    omega
theorem tri_div (n : Nat) : (n : Int) * ((n : Int) - 1) / 2 = sumN n (fun k => (k : Int)) := by
  have h := sumN_id n
  omega

/-- the sum of the floors of (a k + b) / m, k below n -/
def fsum (n : Nat) (m a b : Int) : Int := sumN n (fun k => (a * (k : Int) + b) / m)

theorem le_div {m x y : Int} (hm : 0 < m) : x ≤ y / m ↔ x * m ≤ y := Int.le_ediv_iff_mul_le hm
theorem div_lt {m x y : Int} (hm : 0 < m) : y / m < x ↔ y < x * m := Int.ediv_lt_iff_lt_mul hm

/-- whole parts taken out -/
theorem fsum_split (n : Nat) (m a b : Int) (hm : 0 < m) : fsum n m a b = (n : Int) * ((n : Int) - 1) / 2 * (a / m) + (n : Int) * (b / m) + fsum n m (a % m) (b % m) := by
  have e : fsum n m a b = sumN n (fun k => ((a / m) * (k : Int) + b / m) + ((a % m) * (k : Int) + b % m) / m) := sumN_congr fun k _ => by
    have h1 : a * (k : Int) + b = ((a % m) * (k : Int) + b % m) + m * ((a / m) * (k : Int) + b / m) := by
      have ha := Int.emod_add_mul_ediv a m
      have hb := Int.emod_add_mul_ediv b m
      calc a * (k : Int) + b = (a % m + m * (a / m)) * (k : Int) + (b % m + m * (b / m)) := by rw [ha, hb]
        _ = _ := by
          rw [Int.add_mul, Int.mul_add, Int.mul_assoc]
          omega
    rw [h1, Int.add_mul_ediv_left _ _ (by omega)]
    omega
  rw [e, sumN_add, sumN_add, sumN_mul, sumN_const, tri_div]
  unfold fsum
  rw [Int.mul_comm (a / m)]

/-- the points below a line, counted the other way -/
theorem fsum_turn (n : Nat) (m a b : Int) (hn : 0 < n) (hm : 0 < m) (ha : 0 ≤ a) (hb : 0 ≤ b) (hbm : b < m) (t : Nat) (ht : (t : Int) = (a * ((n : Int) - 1) + b) / m) :
    fsum n m a b = ((n : Int) - 1) * t - fsum t a m (m - b - 1) := by
  have v0 : ∀ k : Nat, k < n → 0 ≤ (a * (k : Int) + b) / m := fun k _ => Int.ediv_nonneg (by have := Int.mul_nonneg ha (Int.natCast_nonneg k); omega) (by omega)
  have vt : ∀ k : Nat, k < n → (a * (k : Int) + b) / m ≤ (t : Int) := fun k hk => by
    rw [ht]
    refine Int.ediv_le_ediv hm ?_
    have := Int.mul_le_mul_of_nonneg_left (show (k : Int) ≤ (n : Int) - 1 by omega) ha
    omega
  have e1 : fsum n m a b = sumN n (fun k => sumN t (fun j => ind ((j : Int) < (a * (k : Int) + b) / m))) := sumN_congr fun k hk => (count_lt t _ (v0 k hk) (vt k hk)).symm
  rw [e1, sumN_swap]
  have e2 : ∀ j : Nat, j < t → sumN n (fun k => ind ((j : Int) < (a * (k : Int) + b) / m)) = ((n : Int) - 1) - (m * (j : Int) + (m - b - 1)) / a := fun j hj => by
    have apos : 0 < a := by
      rcases Int.lt_or_eq_of_le ha with h | h
      · exact h
      · exfalso
        rw [← h] at ht
        have : (0 * ((n : Int) - 1) + b) / m = 0 := by
          rw [Int.zero_mul, Int.zero_add]
          exact Int.ediv_eq_zero_of_lt hb hbm
        omega
    have key : ∀ k : Nat, ((j : Int) < (a * (k : Int) + b) / m ↔ (m * (j : Int) + (m - b - 1)) / a < (k : Int)) := fun k => by
      have h1 : (j : Int) < (a * (k : Int) + b) / m ↔ ((j : Int) + 1) * m ≤ a * (k : Int) + b := by
        rw [← le_div hm]
        omega
      have h2 := div_lt (x := (k : Int)) (y := m * (j : Int) + (m - b - 1)) apos
      rw [h1, h2, Int.add_mul, Int.one_mul, Int.mul_comm (k : Int) a, Int.mul_comm (j : Int) m]
      omega
    rw [sumN_congr (g := fun k => ind ((m * (j : Int) + (m - b - 1)) / a < (k : Int))) fun k _ => ind_congr (key k)]
    have hw0 : 0 ≤ (m * (j : Int) + (m - b - 1)) / a := Int.ediv_nonneg (by have := Int.mul_nonneg (Int.le_of_lt hm) (Int.natCast_nonneg j); omega) ha
    have hw1 : (m * (j : Int) + (m - b - 1)) / a < (n : Int) - 1 + 1 - 0 := by
      have q := (key (n - 1)).mp (by
        have : (((n - 1 : Nat)) : Int) = (n : Int) - 1 := by omega
        rw [this, ← ht]; omega)
      omega
    have hw2 : (m * (j : Int) + (m - b - 1)) / a ≤ (n : Int) - 1 := by omega
    exact count_gt n _ (by omega) hw2
  rw [sumN_congr e2, sumN_sub, sumN_const]
  unfold fsum
  rw [Int.mul_comm]

/-- one turn of the loop that adds floors -/
theorem fsum_step (n : Nat) (m a b : Int) (hn : 0 < n) (hm : 0 < m) :
    0 ≤ (a % m * ((n : Int) - 1) + b % m) / m ∧ (a % m * ((n : Int) - 1) + b % m) / m < n ∧ (a % m = 0 → (a % m * ((n : Int) - 1) + b % m) / m = 0) ∧
    fsum n m a b = (n : Int) * ((n : Int) - 1) / 2 * (a / m) + (n : Int) * (b / m) + ((n : Int) - 1) * ((a % m * ((n : Int) - 1) + b % m) / m) - fsum ((a % m * ((n : Int) - 1) + b % m) / m).toNat (a % m) m (m - b % m - 1) := by
  have a0 := Int.emod_nonneg a (show m ≠ 0 by omega)
  have a1 := Int.emod_lt_of_pos a hm
  have b0 := Int.emod_nonneg b (show m ≠ 0 by omega)
  have b1 := Int.emod_lt_of_pos b hm
  have t0 : 0 ≤ (a % m * ((n : Int) - 1) + b % m) / m := Int.ediv_nonneg (by have := Int.mul_nonneg a0 (show 0 ≤ (n : Int) - 1 by omega); omega) (by omega)
  refine ⟨t0, ?_, fun h => ?_, ?_⟩
  · rw [div_lt hm]
    have h1 := Int.mul_le_mul_of_nonneg_right (show a % m ≤ m - 1 by omega) (show 0 ≤ (n : Int) - 1 by omega)
    have h2 : (m - 1) * ((n : Int) - 1) = (n : Int) * m - m - (n : Int) + 1 := by
      rw [Int.sub_mul, Int.mul_sub, Int.one_mul, Int.mul_comm m]; omega
    omega
  · rw [h, Int.zero_mul, Int.zero_add]
    exact Int.ediv_eq_zero_of_lt b0 b1
  · rw [fsum_split n m a b hm, fsum_turn n m (a % m) (b % m) hn hm a0 b0 b1 _ (Int.toNat_of_nonneg t0), Int.toNat_of_nonneg t0]
    omega

/-- floor(y / m) - floor((y - l) / m) tells whether y is below l modulo m -/
theorem floor_diff {m y l : Int} (hm : 0 < m) (h0 : 0 ≤ l) (h1 : l ≤ m) : y / m - (y - l) / m = ind (y % m < l) := by
  have e := Int.emod_add_mul_ediv y m
  have r0 := Int.emod_nonneg y (show m ≠ 0 by omega)
  have r1 := Int.emod_lt_of_pos y hm
  have e2 : y - l = (y % m - l) + m * (y / m) := by omega
  have e3 : (y - l) / m = (y % m - l) / m + y / m := by
    rw [e2, Int.add_mul_ediv_left _ _ (by omega)]
  rw [e3]
  by_cases h : y % m < l
  · rw [ind_pos h]
    have : (y % m - l) / m = -1 := by
      have q1 : (-1 : Int) ≤ (y % m - l) / m := by rw [le_div hm]; omega
      have q2 : (y % m - l) / m < 0 := by rw [div_lt hm]; omega
      omega
    omega
  · rw [ind_neg h]
    have : (y % m - l) / m = 0 := Int.ediv_eq_zero_of_lt (by omega) (by omega)
    omega
theorem count_floor (n : Nat) (m a b l : Int) (hm : 0 < m) (h0 : 0 ≤ l) (h1 : l ≤ m) : fsum n m a b - fsum n m a (b - l) = sumN n (fun k => ind ((a * (k : Int) + b) % m < l)) := by
  unfold fsum
  rw [← sumN_sub]
  refine sumN_congr fun k _ => ?_
  rw [← floor_diff hm h0 h1]
  have e : a * (k : Int) + (b - l) = a * (k : Int) + b - l := by omega
  rw [e]
end K21

/-! The least t from 0 on with lo <= a * t % m <= hi. Plain Lean. -/
set_option linter.all false
namespace K21

def Hit (m a lo hi t : Int) : Prop := 0 ≤ t ∧ lo ≤ a * t % m ∧ a * t % m ≤ hi
def Least (m a lo hi t : Int) : Prop := Hit m a lo hi t ∧ ∀ t', Hit m a lo hi t' → t ≤ t'

theorem Least.uniq {m a lo hi t u : Int} (h : Least m a lo hi t) (k : Least m a lo hi u) : t = u := Int.le_antisymm (h.2 _ k.1) (k.2 _ h.1)
theorem hit_mod {m a lo hi t : Int} : Hit m (a % m) lo hi t ↔ Hit m a lo hi t := by
  unfold Hit
  have e : a % m * t % m = a * t % m := by rw [Int.mul_emod, Int.emod_emod_of_dvd _ (Int.dvd_refl m), ← Int.mul_emod]
  rw [e]
theorem least_mod {m a lo hi t : Int} : Least m (a % m) lo hi t ↔ Least m a lo hi t := by
  unfold Least
  constructor
  · rintro ⟨h, k⟩
    exact ⟨hit_mod.mp h, fun t' q => k t' (hit_mod.mpr q)⟩
  · rintro ⟨h, k⟩
    exact ⟨hit_mod.mpr h, fun t' q => k t' (hit_mod.mp q)⟩
theorem mul_sub_mod (a t m : Int) : a * (t - m) % m = a * t % m := by
  have e : a * (t - m) = a * t + m * (-a) := by
    rw [Int.mul_sub, Int.mul_neg, Int.mul_comm m a]; omega
  rw [e, Int.add_mul_emod_self_left]
theorem Least.lt {m a lo hi t : Int} (hm : 0 < m) (h : Least m a lo hi t) : t < m := by
  by_cases q : t < m
  · exact q
  · exfalso
    have hh : Hit m a lo hi (t - m) := ⟨by omega, by rw [mul_sub_mod]; exact h.1.2.1, by rw [mul_sub_mod]; exact h.1.2.2⟩
    have := h.2 _ hh
    omega

/-- the ceiling of lo / a as the program has it -/
def cdv (lo a : Int) : Int := -(-lo / a)
theorem cdv_hi {lo a : Int} (ha : 0 < a) : lo ≤ a * cdv lo a := by
  have h := Int.mul_ediv_self_le (x := -lo) (k := a) (by omega)
  unfold cdv
  rw [Int.mul_neg]; omega
theorem cdv_lo {lo a : Int} (ha : 0 < a) : a * (cdv lo a - 1) < lo := by
  have h := Int.lt_mul_ediv_self_add (x := -lo) (k := a) ha
  unfold cdv
  rw [Int.mul_sub, Int.mul_neg]; omega
theorem cdv_le {lo a t : Int} (ha : 0 < a) (h : lo ≤ a * t) : cdv lo a ≤ t := by
  have l := cdv_lo (lo := lo) ha
  have q : a * (cdv lo a - 1) < a * t := by omega
  have := Int.lt_of_mul_lt_mul_left q (by omega)
  omega
theorem cdv_nonneg {lo a : Int} (ha : 0 < a) (h : 0 ≤ lo) : 0 ≤ cdv lo a := by
  have l := cdv_hi (lo := lo) ha
  have q : a * 0 ≤ a * cdv lo a := by omega
  exact Int.le_of_mul_le_mul_left q ha

theorem least_zero {m a hi : Int} (hm : 0 < m) (h : 0 ≤ hi) : Least m a 0 hi 0 := by
  refine ⟨⟨Int.le_refl 0, ?_, ?_⟩, fun t' q => q.1⟩ <;> simp <;> omega
theorem least_direct {m a lo hi : Int} (hm : 0 < m) (ha : 0 < a) (h0 : 0 ≤ lo) (hh : hi < m) (h : a * cdv lo a ≤ hi) : Least m a lo hi (cdv lo a) := by
  have c := cdv_hi (lo := lo) ha
  have e : a * cdv lo a % m = a * cdv lo a := Int.emod_eq_of_lt (by omega) (by omega)
  refine ⟨⟨cdv_nonneg ha h0, by rw [e]; exact c, by rw [e]; exact h⟩, fun t' q => ?_⟩
  by_cases z : cdv lo a ≤ t'
  · exact z
  · exfalso
    have l := cdv_lo (lo := lo) ha
    have k : a * t' ≤ a * (cdv lo a - 1) := Int.mul_le_mul_of_nonneg_left (by omega) (by omega)
    have k0 := Int.mul_nonneg (Int.le_of_lt ha) q.1
    have e2 : a * t' % m = a * t' := Int.emod_eq_of_lt k0 (by omega)
    have := q.2.1
    omega
theorem no_hit_zero {m lo hi t : Int} (h0 : 0 < lo) : ¬ Hit m 0 lo hi t := by
  rintro ⟨_, q, _⟩
  simp at q
  omega

/-- what a hit says without remainders -/
theorem hit_iff {m a lo hi t : Int} (hm : 0 < m) (h0 : 0 ≤ lo) (hh : hi < m) : Hit m a lo hi t ↔ 0 ≤ t ∧ ∃ y, m * y + lo ≤ a * t ∧ a * t ≤ m * y + hi := by
  constructor
  · rintro ⟨t0, q1, q2⟩
    refine ⟨t0, a * t / m, ?_, ?_⟩ <;> have := Int.emod_add_mul_ediv (a * t) m <;> omega
  · rintro ⟨t0, y, q1, q2⟩
    have e : a * t % m = a * t - m * y := by
      have e1 : a * t = (a * t - m * y) + m * y := by omega
      rw [e1, Int.add_mul_emod_self_left, Int.emod_eq_of_lt (by omega) (by omega)]
      omega
    refine ⟨t0, ?_, ?_⟩ <;> rw [e] <;> omega

/-- the bounds of the smaller question -/
theorem step_bounds {m a lo hi : Int} (hm : 0 < m) (ha : 0 < a) (h0 : 0 < lo) (hl : lo ≤ hi) (h : ¬ a * cdv lo a ≤ hi) : 0 < -hi % a ∧ -hi % a ≤ -lo % a ∧ -lo % a < a ∧ ∃ c, lo = a * c - -lo % a ∧ hi = a * c - -hi % a := by
  have l := cdv_lo (lo := lo) ha
  have e1 : -lo % a = a * cdv lo a - lo := by
    have q : -lo = (a * cdv lo a - lo) + a * (-cdv lo a) := by rw [Int.mul_neg]; omega
    rw [q, Int.add_mul_emod_self_left, Int.emod_eq_of_lt (by have := cdv_hi (lo := lo) ha; omega) (by rw [Int.mul_sub] at l; omega)]
  have e2 : -hi % a = a * cdv lo a - hi := by
    have q : -hi = (a * cdv lo a - hi) + a * (-cdv lo a) := by rw [Int.mul_neg]; omega
    rw [q, Int.add_mul_emod_self_left, Int.emod_eq_of_lt (by omega) (by rw [Int.mul_sub] at l; omega)]
  have u := Int.emod_lt_of_pos (-lo) ha
  refine ⟨by omega, by omega, u, cdv lo a, by omega, by omega⟩

theorem hit_step {m a lo hi y : Int} (hm : 0 < m) (ha : 0 < a) (h0 : 0 < lo) (hl : lo ≤ hi) (hh : hi < m) (h : ¬ a * cdv lo a ≤ hi) :
    Hit a (m % a) (-hi % a) (-lo % a) y ↔ 0 ≤ y ∧ ∃ t, 0 ≤ t ∧ m * y + lo ≤ a * t ∧ a * t ≤ m * y + hi := by
  obtain ⟨b0, b1, b2, c, c1, c2⟩ := step_bounds hm ha h0 hl h
  rw [hit_mod, hit_iff ha (by omega) b2]
  constructor
  · rintro ⟨y0, z, z1, z2⟩
    refine ⟨y0, z + c, ?_, ?_, ?_⟩
    · have k0 := Int.mul_nonneg (Int.le_of_lt hm) y0
      by_cases q : 0 ≤ z + c
      · exact q
      · exfalso
        have k : a * (z + c) ≤ a * 0 := Int.mul_le_mul_of_nonneg_left (by omega) (by omega)
        rw [Int.mul_add] at k
        omega
    · rw [Int.mul_add]; omega
    · rw [Int.mul_add]; omega
  · rintro ⟨y0, t, _, z1, z2⟩
    refine ⟨y0, t - c, ?_, ?_⟩ <;> rw [Int.mul_sub] <;> omega

theorem least_step {m a lo hi y : Int} (hm : 0 < m) (ha : 0 < a) (h0 : 0 < lo) (hl : lo ≤ hi) (hh : hi < m) (h : ¬ a * cdv lo a ≤ hi) (hy : Least a (m % a) (-hi % a) (-lo % a) y) :
    Least m a lo hi (cdv (lo + m * y) a) := by
  obtain ⟨y0, t, t0, q1, q2⟩ := (hit_step hm ha h0 hl hh h).mp hy.1
  have c1 := cdv_hi (lo := lo + m * y) ha
  have c2 : cdv (lo + m * y) a ≤ t := cdv_le ha (by omega)
  have k := Int.mul_le_mul_of_nonneg_left c2 (Int.le_of_lt ha)
  have my := Int.mul_nonneg (Int.le_of_lt hm) y0
  refine ⟨(hit_iff hm (by omega) hh).mpr ⟨cdv_nonneg ha (by omega), y, by omega, by omega⟩, fun t' q => ?_⟩
  obtain ⟨t0', y', p1, p2⟩ := (hit_iff hm (by omega) hh).mp q
  have y0' : 0 ≤ y' := by
    by_cases z : 0 ≤ y'
    · exact z
    · exfalso
      have z1 := Int.mul_le_mul_of_nonneg_left (show y' ≤ -1 by omega) (Int.le_of_lt hm)
      have z2 := Int.mul_nonneg (Int.le_of_lt ha) t0'
      omega
  have w := hy.2 y' ((hit_step hm ha h0 hl hh h).mpr ⟨y0', t', t0', p1, p2⟩)
  have w1 := Int.mul_le_mul_of_nonneg_left w (Int.le_of_lt hm)
  exact cdv_le ha (by omega)
theorem exists_step {m a lo hi : Int} (hm : 0 < m) (ha : 0 < a) (h0 : 0 < lo) (hl : lo ≤ hi) (hh : hi < m) (h : ¬ a * cdv lo a ≤ hi) (hx : ∃ t, Hit m a lo hi t) : ∃ y, Hit a (m % a) (-hi % a) (-lo % a) y := by
  obtain ⟨t, q⟩ := hx
  obtain ⟨t0', y', p1, p2⟩ := (hit_iff hm (by omega) hh).mp q
  have y0' : 0 ≤ y' := by
    by_cases z : 0 ≤ y'
    · exact z
    · exfalso
      have z1 := Int.mul_le_mul_of_nonneg_left (show y' ≤ -1 by omega) (Int.le_of_lt hm)
      have z2 := Int.mul_nonneg (Int.le_of_lt ha) t0'
      omega
  exact ⟨y', (hit_step hm ha h0 hl hh h).mpr ⟨y0', t, t0', p1, p2⟩⟩

/-- the question that first_in looks at: bounds, and that there is an answer -/
structure Ask (m a lo hi : Int) : Prop where
  m0 : 0 < m
  a0 : 0 ≤ a
  am : a < m
  l0 : 0 ≤ lo
  lh : lo ≤ hi
  hm : hi < m
  ex : ∃ t, Hit m a lo hi t
theorem Ask.pos {m a lo hi : Int} (q : Ask m a lo hi) (h : lo ≠ 0) : 0 < a := by
  rcases Int.lt_or_eq_of_le q.a0 with z | z
  · exact z
  · exfalso
    obtain ⟨t, k⟩ := q.ex
    rw [← z] at k
    have := q.l0
    exact no_hit_zero (by omega) k
theorem Ask.next {m a lo hi : Int} (q : Ask m a lo hi) (h0 : lo ≠ 0) (h : ¬ a * cdv lo a ≤ hi) : Ask a (m % a) (-hi % a) (-lo % a) := by
  have ha := q.pos h0
  have l0 := q.l0
  obtain ⟨b0, b1, b2, _⟩ := step_bounds q.m0 ha (by omega) q.lh h
  exact ⟨ha, Int.emod_nonneg _ (by omega), Int.emod_lt_of_pos _ ha, by omega, b1, b2, exists_step q.m0 ha (by omega) q.lh q.hm h q.ex⟩

/-- the questions behind this one, the last one first, to the first question -/
def Chn (R A LO HI : Int) : List (Int × Int × Int) → Int → Int → Int → Int → Prop
  | [], r, a, lo, hi => r = R ∧ a = A ∧ lo = LO ∧ hi = HI
  | (m, a', lo') :: t, r, a, lo, hi => ∃ hi', Ask m a' lo' hi' ∧ lo' ≠ 0 ∧ ¬ a' * cdv lo' a' ≤ hi' ∧ r = a' ∧ a = m % a' ∧ lo = -hi' % a' ∧ hi = -lo' % a' ∧ m ≤ R ∧ Chn R A LO HI t m a' lo' hi'

/-- the product of a pair falls by half at each step -/
theorem half_step {r a : Int} {n : Nat} {B : Int} (ha : 0 < a) (h : 2 ^ n * (r * a) ≤ B) (am : a ≤ r) : 2 ^ (n + 1) * (a * (r % a)) ≤ B := by
  have e := Int.emod_add_mul_ediv r a
  have l0 := Int.emod_nonneg r (show a ≠ 0 by omega)
  have l1 := Int.emod_lt_of_pos r ha
  have q1 : 1 ≤ r / a := by rw [Int.le_ediv_iff_mul_le ha]; omega
  have q2 := Int.mul_le_mul_of_nonneg_left q1 (Int.le_of_lt ha)
  have h2 : 2 * (a * (r % a)) ≤ r * a := by
    have h3 := Int.mul_le_mul_of_nonneg_left (show 2 * (r % a) ≤ r by omega) (Int.le_of_lt ha)
    have e1 : a * (2 * (r % a)) = 2 * (a * (r % a)) := Int.mul_left_comm _ _ _
    have e2 : a * r = r * a := Int.mul_comm _ _
    omega
  have p : (0 : Int) ≤ 2 ^ n := Int.le_of_lt (Int.pow_pos (by decide))
  have h4 := Int.mul_le_mul_of_nonneg_left h2 p
  have e3 : (2 : Int) ^ (n + 1) * (a * (r % a)) = 2 ^ n * (2 * (a * (r % a))) := by rw [Int.pow_succ, Int.mul_assoc]
  omega
theorem steps_le {n : Nat} {x : Int} (hx : 1 ≤ x) {b : Nat} (h : (2 : Int) ^ n * x ≤ 2 ^ b) : n ≤ b := by
  have p : (0 : Int) ≤ 2 ^ n := Int.le_of_lt (Int.pow_pos (by decide))
  have h1 := Int.mul_le_mul_of_nonneg_left hx p
  have h2 : (2 : Int) ^ n ≤ 2 ^ b := by omega
  have h3 : (2 : Nat) ^ n ≤ 2 ^ b := by exact_mod_cast h2
  exact (Nat.pow_le_pow_iff_right (by decide)).mp h3
end K21

/-! A rotation by p modulo M, the places below B: three gaps. Plain Lean. -/
set_option linter.all false
namespace K21

theorem bezout (a b : Nat) : ∃ x y : Int, (a : Int) * x + (b : Int) * y = (Nat.gcd a b : Nat) := by
  induction a, b using Nat.gcd.induction with
  | H0 n => exact ⟨0, 1, by simp⟩
  | H1 m n hm ih =>
    obtain ⟨x, y, h⟩ := ih
    refine ⟨y - (n / m : Nat) * x, x, ?_⟩
    rw [Nat.gcd_rec m n, ← h]
    have e : ((n % m : Nat) : Int) = (n : Int) - (m : Int) * ((n / m : Nat) : Int) := by
      have := Nat.mod_add_div n m
      omega
    rw [e, Int.mul_sub, Int.sub_mul, Int.mul_assoc]
    omega

/-- p has an inverse modulo M -/
def Unit (p M : Int) : Prop := ∃ x y : Int, p * x + M * y = 1
theorem unit_of {p : Int} {M : Nat} (h : Nat.gcd p.natAbs M = 1) : Unit p M := by
  obtain ⟨x, y, e⟩ := bezout p.natAbs M
  rw [h] at e
  rcases Int.natAbs_eq p with q | q
  · exact ⟨x, y, by rw [q]; exact_mod_cast e⟩
  · refine ⟨-x, y, ?_⟩
    rw [q, Int.neg_mul_neg]
    exact_mod_cast e
theorem Unit.dvd {p M t : Int} (h : Unit p M) (d : M ∣ p * t) : M ∣ t := by
  obtain ⟨x, y, e⟩ := h
  obtain ⟨k, hk⟩ := d
  refine ⟨k * x + y * t, ?_⟩
  have h1 : (p * x + M * y) * t = t := by rw [e, Int.one_mul]
  have e1 : p * x * t = M * (k * x) := by
    rw [← Int.mul_assoc, ← hk, Int.mul_assoc, Int.mul_assoc, Int.mul_comm x t]
  rw [Int.add_mul, e1, Int.mul_assoc] at h1
  rw [Int.mul_add]
  exact h1.symm

theorem emod_of {a r m k : Int} (h : a = r + m * k) (h0 : 0 ≤ r) (h1 : r < m) : a % m = r := by
  rw [h, Int.add_mul_emod_self_left, Int.emod_eq_of_lt h0 h1]

/-- a rotation with at least two places, fewer than half -/
structure Rot (M p B u w : Int) : Prop where
  un : Unit p M
  b2 : 2 ≤ B
  half : 2 * (B - 1) < M
  up : Least M p 1 (B - 1) u
  dn : Least M (-p) 1 (B - 1) w

section
variable {M p B u w : Int}
theorem Rot.ask (un : Unit p M) (b2 : 2 ≤ B) (h : 2 * (B - 1) < M) : ∃ t, Hit M p 1 (B - 1) t := by
  obtain ⟨x, y, e⟩ := un
  refine ⟨x % M, Int.emod_nonneg _ (by omega), ?_⟩
  have q : p * (x % M) % M = 1 := by
    rw [Int.mul_emod, Int.emod_emod_of_dvd _ (Int.dvd_refl M), ← Int.mul_emod]
    exact emod_of (k := -y) (by rw [Int.mul_neg]; omega) (by omega) (by omega)
  rw [q]; omega
theorem Unit.neg {p M : Int} (h : Unit p M) : Unit (-p) M := by
  obtain ⟨x, y, e⟩ := h
  exact ⟨-x, y, by rw [Int.neg_mul_neg]; exact e⟩

theorem Rot.M0 (R : Rot M p B u w) : 0 < M := by have := R.b2; have := R.half; omega
theorem Rot.BM (R : Rot M p B u w) : B < M := by have := R.b2; have := R.half; omega
theorem Rot.s1 (R : Rot M p B u w) : 1 ≤ p * u % M ∧ p * u % M ≤ B - 1 := R.up.1.2
theorem Rot.z1 (R : Rot M p B u w) : 1 ≤ -p * w % M ∧ -p * w % M ≤ B - 1 := R.dn.1.2
theorem Rot.su (R : Rot M p B u w) : p * u = p * u % M + M * (p * u / M) := by have := Int.emod_add_mul_ediv (p * u) M; omega
theorem Rot.zw (R : Rot M p B u w) : -p * w = -p * w % M + M * (-p * w / M) := by have := Int.emod_add_mul_ediv (-p * w) M; omega
theorem Rot.u1 (R : Rot M p B u w) : 1 ≤ u := by
  have h := R.up.1.1
  have s := R.s1
  by_cases e : u = 0
  · rw [e, Int.mul_zero, Int.zero_emod] at s; omega
  · omega
theorem Rot.w1 (R : Rot M p B u w) : 1 ≤ w := by
  have h := R.dn.1.1
  have s := R.z1
  by_cases e : w = 0
  · rw [e, Int.mul_zero, Int.zero_emod] at s; omega
  · omega
theorem Rot.uM (R : Rot M p B u w) : u < M := R.up.lt R.M0
theorem Rot.wM (R : Rot M p B u w) : w < M := R.dn.lt R.M0
/-- a time at which the place is greater by d -/
theorem Rot.hitU (R : Rot M p B u w) {t d k : Int} (t0 : 0 ≤ t) (e : p * t = d + M * k) (d0 : 1 ≤ d) (d1 : d ≤ B - 1) : u ≤ t := by
  have := R.BM
  refine R.up.2 t ⟨t0, ?_, ?_⟩ <;> rw [emod_of e (by omega) (by omega)] <;> omega
theorem Rot.hitW (R : Rot M p B u w) {t d k : Int} (t0 : 0 ≤ t) (e : p * t = -d + M * k) (d0 : 1 ≤ d) (d1 : d ≤ B - 1) : w ≤ t := by
  have := R.BM
  have e' : -p * t = d + M * (-k) := by rw [Int.neg_mul, Int.mul_neg]; omega
  refine R.dn.2 t ⟨t0, ?_, ?_⟩ <;> rw [emod_of e' (by omega) (by omega)] <;> omega
theorem Rot.zw' (R : Rot M p B u w) : p * w = -(-p * w % M) + M * (-(-p * w / M)) := by
  have := R.zw
  have e : -p * w = -(p * w) := Int.neg_mul _ _
  rw [Int.mul_neg]; omega
theorem Rot.sz (R : Rot M p B u w) : B ≤ p * u % M + -p * w % M := by
  have s := R.s1
  have z := R.z1
  have su := R.su
  have zw := R.zw'
  have hu := R.u1
  have hw := R.w1
  have bm := R.BM
  by_cases h : B ≤ p * u % M + -p * w % M
  · exact h
  exfalso
  have e : p * (u - w) = (p * u % M + -p * w % M) + M * (p * u / M + -p * w / M) := by rw [Int.mul_sub, Int.mul_add]; rw [Int.mul_neg] at zw; omega
  rcases Int.lt_trichotomy u w with q | q | q
  · have e2 : p * (w - u) = -(p * u % M + -p * w % M) + M * (-(p * u / M + -p * w / M)) := by
      rw [Int.mul_neg]; rw [Int.mul_sub] at e ⊢; omega
    have := R.hitW (by omega) e2 (by omega) (by omega)
    omega
  · rw [q, Int.sub_self, Int.mul_zero] at e
    rw [q] at h s
    have := emod_of (a := 0) (r := p * w % M + -p * w % M) e (by omega) (by omega)
    rw [Int.zero_emod] at this
    omega
  · have := R.hitU (by omega) e (by omega) (by omega)
    omega
theorem Rot.ne (R : Rot M p B u w) : u ≠ w := by
  intro q
  have s := R.s1
  have z := R.z1
  have su := R.su
  have zw := R.zw'
  have hf := R.half
  have e : p * (u - w) = (p * u % M + -p * w % M) + M * (p * u / M + -p * w / M) := by rw [Int.mul_sub, Int.mul_add]; rw [Int.mul_neg] at zw; omega
  rw [q, Int.sub_self, Int.mul_zero] at e
  rw [q] at s
  have := emod_of (a := 0) (r := p * w % M + -p * w % M) e (by omega) (by omega)
  rw [Int.zero_emod] at this
  omega
theorem Rot.uwM (R : Rot M p B u w) : u + w ≤ M := by
  have su := R.su
  have s := R.s1
  have uM := R.uM
  have e : p * (M - u) = -(p * u % M) + M * (p - p * u / M) := by
    rw [Int.mul_sub, Int.mul_sub, Int.mul_comm p M]; omega
  have := R.hitW (by omega) e s.1 s.2
  omega
/-- coming back to the same place -/
theorem Rot.same (R : Rot M p B u w) {t k : Int} (t0 : 0 < t) (e : p * t = M * k) : M ≤ t := Int.le_of_dvd t0 (R.un.dvd ⟨k, e⟩)

/-- the gap at the place x -/
def gapAt (M p B u w x : Int) : Int := if x < B - p * u % M then u else if -p * w % M ≤ x then w else u + w

theorem Rot.gap (R : Rot M p B u w) {x : Int} (x0 : 0 ≤ x) (xB : x < B) :
    0 < gapAt M p B u w x ∧ (x + p * gapAt M p B u w x) % M < B ∧ ∀ t, 0 < t → t < gapAt M p B u w x → B ≤ (x + p * t) % M := by
  have s := R.s1
  have z := R.z1
  have su := R.su
  have zw := R.zw'
  have hu := R.u1
  have hw := R.w1
  have bm := R.BM
  have sz := R.sz
  have uM := R.uM
  have wM := R.wM
  have uwM := R.uwM
  have M0 := R.M0
  -- where a time t leads
  have to : ∀ t : Int, (x + p * t) % M < B → ∃ d k, p * t = d + M * k ∧ 0 ≤ x + d ∧ x + d < B := fun t h => by
    refine ⟨(x + p * t) % M - x, (x + p * t) / M, ?_, ?_, ?_⟩
    · have := Int.emod_add_mul_ediv (x + p * t) M; omega
    · have := Int.emod_nonneg (x + p * t) (show M ≠ 0 by omega); omega
    · omega
  unfold gapAt
  by_cases h1 : x < B - p * u % M
  · rw [if_pos h1]
    refine ⟨by omega, ?_, fun t t0 tu => ?_⟩
    · rw [emod_of (r := x + p * u % M) (k := p * u / M) (by omega) (by omega) (by omega)]; omega
    · by_cases q : B ≤ (x + p * t) % M
      · exact q
      exfalso
      obtain ⟨d, k, e, d0, d1⟩ := to t (by omega)
      rcases Int.lt_trichotomy d 0 with h | h | h
      · have e2 : p * (u - t) = (p * u % M - d) + M * (p * u / M - k) := by rw [Int.mul_sub, Int.mul_sub]; omega
        have := R.hitU (by omega) e2 (by omega) (by omega)
        omega
      · rw [h, Int.zero_add] at e
        have := R.same t0 e
        omega
      · have := R.hitU (by omega) e (by omega) (by omega)
        omega
  · rw [if_neg h1]
    by_cases h2 : -p * w % M ≤ x
    · rw [if_pos h2]
      refine ⟨by omega, ?_, fun t t0 tw => ?_⟩
      · rw [emod_of (r := x - -p * w % M) (k := -(-p * w / M)) (by omega) (by omega) (by omega)]; omega
      · by_cases q : B ≤ (x + p * t) % M
        · exact q
        exfalso
        obtain ⟨d, k, e, d0, d1⟩ := to t (by omega)
        rcases Int.lt_trichotomy d 0 with h | h | h
        · have := R.hitW (t := t) (d := -d) (k := k) (by omega) (by omega) (by omega) (by omega)
          omega
        · rw [h, Int.zero_add] at e
          have := R.same t0 e
          omega
        · have e2 : p * (w - t) = -(-p * w % M + d) + M * (-(-p * w / M) - k) := by rw [Int.mul_sub, Int.mul_sub]; omega
          have := R.hitW (by omega) e2 (by omega) (by omega)
          omega
    · rw [if_neg h2]
      refine ⟨by omega, ?_, fun t t0 tuw => ?_⟩
      · rw [emod_of (r := x + p * u % M - -p * w % M) (k := p * u / M + -(-p * w / M)) (by rw [Int.mul_add, Int.mul_add]; omega) (by omega) (by omega)]; omega
      · by_cases q : B ≤ (x + p * t) % M
        · exact q
        exfalso
        obtain ⟨d, k, e, d0, d1⟩ := to t (by omega)
        rcases Int.lt_trichotomy d 0 with h | h | h
        · have tw := R.hitW (t := t) (d := -d) (k := k) (by omega) (by omega) (by omega) (by omega)
          have e2 : p * (t - w) = (d + -p * w % M) + M * (k - -(-p * w / M)) := by rw [Int.mul_sub, Int.mul_sub]; omega
          have := R.hitU (by omega) e2 (by omega) (by omega)
          omega
        · rw [h, Int.zero_add] at e
          have := R.same t0 e
          omega
        · have tu := R.hitU (by omega) e (by omega) (by omega)
          have e2 : p * (t - u) = -(p * u % M - d) + M * (k - p * u / M) := by rw [Int.mul_sub, Int.mul_sub]; omega
          have := R.hitW (by omega) e2 (by omega) (by omega)
          omega
end

/-! ### all places in a turn -/
/-- the place at k -/
def plc (M c p : Int) (k : Nat) : Int := (c + p * (k : Int)) % M
theorem plc_nonneg {M c p : Int} {k : Nat} (h : 0 < M) : 0 ≤ plc M c p k := Int.emod_nonneg _ (by omega)
theorem plc_lt {M c p : Int} {k : Nat} (h : 0 < M) : plc M c p k < M := Int.emod_lt_of_pos _ h
theorem plc_add {M c p : Int} (k t : Nat) : plc M c p (k + t) = (plc M c p k + p * (t : Int)) % M := by
  unfold plc
  rw [Int.natCast_add, Int.mul_add, ← Int.add_assoc]
  rw [Int.emod_add_emod]
theorem plc_turn {M : Nat} {c p : Int} (k : Nat) : plc M c p (k + M) = plc M c p k := by
  unfold plc
  rw [Int.natCast_add, Int.mul_add, ← Int.add_assoc, Int.mul_comm p (M : Int), Int.add_mul_emod_self_left]

/-- each place comes once -/
theorem sum_plc {M : Nat} {c p : Int} (h : 0 < M) (un : Unit p M) (F : Int → Int) : sumN M (fun k => F (plc M c p k)) = sumN M (fun j => F (j : Int)) := by
  have M0 : (0 : Int) < (M : Int) := by omega
  have e1 : sumN M (fun k => F (plc M c p k)) = sumN M (fun k => sumN M (fun j => F (j : Int) * ind (plc M c p k = (j : Int)))) := sumN_congr fun k hk => by
    have h0 := plc_nonneg (c := c) (p := p) (k := k) M0
    have h1 := plc_lt (c := c) (p := p) (k := k) M0
    have e : sumN M (fun j => F (j : Int) * ind (plc M c p k = (j : Int))) = sumN M (fun j => F (plc M c p k) * ind (plc M c p k = (j : Int))) := sumN_congr fun j hj => by
      by_cases q : plc M c p k = (j : Int)
      · rw [q]
      · rw [ind_neg q, Int.mul_zero, Int.mul_zero]
    rw [e, sumN_mul, count_one (plc M c p k).toNat (by omega) (by omega) (fun j hj q => by omega), Int.mul_one]
  rw [e1, sumN_swap]
  refine sumN_congr fun j hj => ?_
  rw [sumN_mul]
  obtain ⟨x, y, e⟩ := id un
  have k0 := Int.emod_nonneg (x * ((j : Int) - c)) (show (M : Int) ≠ 0 by omega)
  have k1 := Int.emod_lt_of_pos (x * ((j : Int) - c)) M0
  have hk : plc M c p (x * ((j : Int) - c) % M).toNat = (j : Int) := by
    unfold plc
    rw [Int.toNat_of_nonneg k0]
    have d := Int.emod_add_mul_ediv (x * ((j : Int) - c)) (M : Int)
    refine emod_of (k := -(y * ((j : Int) - c) + p * (x * ((j : Int) - c) / (M : Int)))) ?_ (by omega) (by omega)
    have e2 : p * (x * ((j : Int) - c) % (M : Int)) = p * (x * ((j : Int) - c)) - (M : Int) * (p * (x * ((j : Int) - c) / (M : Int))) := by
      have e3 : x * ((j : Int) - c) % (M : Int) = x * ((j : Int) - c) - (M : Int) * (x * ((j : Int) - c) / (M : Int)) := by omega
      rw [e3, Int.mul_sub]
      have : p * ((M : Int) * (x * ((j : Int) - c) / (M : Int))) = (M : Int) * (p * (x * ((j : Int) - c) / (M : Int))) := Int.mul_left_comm _ _ _
      omega
    have e4 : p * (x * ((j : Int) - c)) = ((j : Int) - c) - (M : Int) * (y * ((j : Int) - c)) := by
      have : (p * x + (M : Int) * y) * ((j : Int) - c) = (j : Int) - c := by rw [e, Int.one_mul]
      rw [Int.add_mul, Int.mul_assoc, Int.mul_assoc] at this
      omega
    rw [e2, e4, Int.mul_neg, Int.mul_add]
    omega
  rw [count_one (x * ((j : Int) - c) % M).toNat (by omega) hk (fun k hk' q => ?_), Int.mul_one]
  have q2 : plc M c p k = plc M c p (x * ((j : Int) - c) % M).toNat := by rw [q, hk]
  unfold plc at q2
  rw [Int.toNat_of_nonneg k0] at q2
  have d : (M : Int) ∣ p * ((k : Int) - x * ((j : Int) - c) % M) := by
    have d1 := Int.dvd_of_emod_eq_zero (Int.emod_eq_emod_iff_emod_sub_eq_zero.mp q2)
    have e5 : c + p * (k : Int) - (c + p * (x * ((j : Int) - c) % (M : Int))) = p * ((k : Int) - x * ((j : Int) - c) % M) := by
      generalize x * ((j : Int) - c) % (M : Int) = Z
      rw [Int.mul_sub]; omega
    rw [e5] at d1
    exact d1
  obtain ⟨g, hg⟩ := un.dvd d
  have : g = 0 := by
    rcases Int.lt_trichotomy g 0 with z | z | z
    · have := Int.mul_le_mul_of_nonneg_left (show g ≤ -1 by omega) (Int.le_of_lt M0); omega
    · exact z
    · have := Int.mul_le_mul_of_nonneg_left (show 1 ≤ g by omega) (Int.le_of_lt M0); omega
  rw [this, Int.mul_zero] at hg
  omega

/-- how many places below B in a turn -/
theorem count_plc {M : Nat} {c p B : Int} (h : 0 < M) (un : Unit p M) (b0 : 0 ≤ B) (b1 : B ≤ M) : sumN M (fun k => ind (plc M c p k < B)) = B := by
  rw [sum_plc h un (fun x => ind (x < B))]
  exact count_lt M B b0 b1

/-- a sum over the gaps of a turn -/
theorem Rot.sum {M : Nat} {p B u w : Int} (R : Rot M p B u w) (c : Int) (F : Int → Int) :
    sumN M (fun k => if plc M c p k < B then F (gapAt M p B u w (plc M c p k)) else 0) = F u * (B - p * u % M) + F w * (B - -p * w % M) + F (u + w) * (p * u % M + -p * w % M - B) := by
  have s := R.s1
  have z := R.z1
  have sz := R.sz
  have bm := R.BM
  have M0 := R.M0
  rw [sum_plc (by omega) R.un (fun x => if x < B then F (gapAt M p B u w x) else 0)]
  have e : sumN M (fun j => if (j : Int) < B then F (gapAt M p B u w (j : Int)) else 0) =
      sumN M (fun j => (F u * ind ((j : Int) < B - p * u % M) + (F w * ind ((j : Int) < B) - F w * ind ((j : Int) < -p * w % M))) + (F (u + w) * ind ((j : Int) < -p * w % M) - F (u + w) * ind ((j : Int) < B - p * u % M))) := sumN_congr fun j hj => by
    unfold gapAt
    by_cases h1 : (j : Int) < B - p * u % M
    · rw [if_pos (by omega), if_pos h1, ind_pos h1, ind_pos (show (j : Int) < B by omega), ind_pos (show (j : Int) < -p * w % M by omega)]; omega
    · rw [if_neg h1, ind_neg h1]
      by_cases h2 : (j : Int) < -p * w % M
      · rw [if_neg (show ¬ -p * w % M ≤ (j : Int) by omega), ind_pos h2, if_pos (by omega), ind_pos (show (j : Int) < B by omega)]; omega
      · rw [if_pos (show -p * w % M ≤ (j : Int) by omega), ind_neg h2]
        by_cases h3 : (j : Int) < B
        · rw [if_pos h3, ind_pos h3]; omega
        · rw [if_neg h3, ind_neg h3]; omega
  rw [e, sumN_add, sumN_add, sumN_sub, sumN_sub, sumN_mul, sumN_mul, sumN_mul, sumN_mul, sumN_mul, count_lt M _ (by omega) (by omega), count_lt M B (by omega) (by omega), count_lt M _ (by omega) (by omega)]
  simp only [Int.mul_sub, Int.mul_add, Int.add_mul, Int.sub_mul]
  omega

/-! ### the gaps make up the turn -/
def nx (f : Nat → Bool) : Nat → Nat → Nat
  | 0, _ => 0
  | n + 1, k => if f k = true then 0 else nx f n (k + 1) + 1
def IsNx (f : Nat → Bool) (k r : Nat) : Prop := f (k + r) = true ∧ ∀ t, t < r → f (k + t) = false
theorem IsNx.uniq {f : Nat → Bool} {k r r' : Nat} (h : IsNx f k r) (h' : IsNx f k r') : r = r' := by
  rcases Nat.lt_trichotomy r r' with q | q | q
  · have := h'.2 r q; rw [h.1] at this; cases this
  · exact q
  · have := h.2 r' q; rw [h'.1] at this; cases this
theorem nx_is {f : Nat → Bool} : ∀ {n k : Nat}, (∃ t, t < n ∧ f (k + t) = true) → IsNx f k (nx f n k)
  | 0, _, h => by obtain ⟨t, q, _⟩ := h; omega
  | n + 1, k, h => by
    unfold nx
    by_cases e : f k = true
    · rw [if_pos e]
      exact ⟨e, fun t q => by omega⟩
    · rw [if_neg e]
      obtain ⟨t, q, ht⟩ := h
      have t0 : t ≠ 0 := fun z => e (by rw [z] at ht; exact ht)
      obtain ⟨a, b⟩ := nx_is (f := f) (n := n) (k := k + 1) ⟨t - 1, by omega, by rw [show k + 1 + (t - 1) = k + t by omega]; exact ht⟩
      refine ⟨by rw [show k + (nx f n (k + 1) + 1) = k + 1 + nx f n (k + 1) by omega]; exact a, fun t' q' => ?_⟩
      by_cases z : t' = 0
      · rw [z]; exact Bool.eq_false_iff.mpr e
      · have := b (t' - 1) (by omega)
        rw [show k + 1 + (t' - 1) = k + t' by omega] at this
        exact this
/-- visits that come again after M; g tells the gap of each -/
structure Gp (f : Nat → Bool) (g : Nat → Int) (M : Nat) : Prop where
  per : ∀ k, f (k + M) = f k
  pos : ∀ k, f k = true → 0 < g k
  hit : ∀ k, f k = true → f (k + (g k).toNat) = true
  none : ∀ k (t : Nat), f k = true → 0 < t → (t : Int) < g k → f (k + t) = false
  some : ∃ k, k < M ∧ f k = true
theorem Gp.ex {f : Nat → Bool} {g : Nat → Int} {M : Nat} (G : Gp f g M) (k : Nat) : ∃ t, t < M ∧ f (k + t) = true := by
  obtain ⟨k0, h0, e⟩ := G.some
  have per : ∀ n j, f (j + n * M) = f j := fun n => by
    induction n with
    | zero => intro j; rw [Nat.zero_mul, Nat.add_zero]
    | succ n ih => intro j; rw [Nat.succ_mul, ← Nat.add_assoc, G.per, ih]
  have hm : 0 < M := by omega
  have d := Nat.mod_add_div k M
  have l := Nat.mod_lt k hm
  by_cases q : k % M ≤ k0
  · refine ⟨k0 - k % M, by omega, ?_⟩
    have : k + (k0 - k % M) = k0 + (k / M) * M := by rw [Nat.mul_comm]; omega
    rw [this, per, e]
  · refine ⟨k0 + M - k % M, by omega, ?_⟩
    have : k + (k0 + M - k % M) = k0 + (k / M + 1) * M := by rw [Nat.add_mul, Nat.mul_comm (k / M)]; omega
    rw [this, per, e]
theorem Gp.sum {f : Nat → Bool} {g : Nat → Int} {M : Nat} (G : Gp f g M) : sumN M (fun k => if f k = true then g k else 0) = M := by
  have D : ∀ k, IsNx f k (nx f M k) := fun k => nx_is (G.ex k)
  have st : ∀ k, ((if f k = true then g k else 0) : Int) = 1 + nx f M (k + 1) - nx f M k := fun k => by
    by_cases h : f k = true
    · rw [if_pos h]
      have e0 : nx f M k = 0 := (D k).uniq ⟨h, fun t q => by omega⟩
      have gp := G.pos k h
      have e1 : nx f M (k + 1) = (g k).toNat - 1 := (D (k + 1)).uniq ⟨by rw [show k + 1 + ((g k).toNat - 1) = k + (g k).toNat by omega]; exact G.hit k h, fun t q => by
        have := G.none k (t + 1) h (by omega) (by omega)
        rw [show k + 1 + t = k + (t + 1) by omega]; exact this⟩
      rw [e0, e1]; omega
    · rw [if_neg h]
      have e1 : nx f M k = nx f M (k + 1) + 1 := (D k).uniq ⟨by rw [show k + (nx f M (k + 1) + 1) = k + 1 + nx f M (k + 1) by omega]; exact (D (k + 1)).1, fun t q => by
        by_cases z : t = 0
        · rw [z]; exact Bool.eq_false_iff.mpr h
        · have := (D (k + 1)).2 (t - 1) (by omega)
          rw [show k + 1 + (t - 1) = k + t by omega] at this
          exact this⟩
      rw [e1]; omega
  have tel : ∀ n, sumN n (fun k => if f k = true then g k else 0) = n + nx f M n - nx f M 0 := fun n => by
    induction n with
    | zero => show (0 : Int) = ((0 : Nat) : Int) + nx f M 0 - nx f M 0; omega
    | succ n ih =>
      show sumN n (fun k => if f k = true then g k else 0) + (if f n = true then g n else 0) = _
      rw [ih, st n]; omega
  have e : nx f M M = nx f M 0 := (D M).uniq ⟨by rw [Nat.add_comm, G.per]; have := (D 0).1; rw [Nat.zero_add] at this; exact this, fun t q => by
    rw [Nat.add_comm, G.per]; have := (D 0).2 t q; rw [Nat.zero_add] at this; exact this⟩
  rw [tel, e]; omega
end K21

/-! Courses: marks, houses, gaps. Plain Lean. -/
set_option linter.all false
namespace K21

/-- a course in its form: houses, start, rise, run -/
structure Crs where
  h : Int
  S : Int
  e : Int
  q : Int
namespace Crs
def m (c : Crs) : Int := c.q * c.h
def d (c : Crs) : Int := (Nat.gcd c.e.natAbs c.m.natAbs : Nat)
def M (c : Crs) : Int := c.m / c.d
def p (c : Crs) : Int := c.e / c.d
def off (c : Crs) (x : Int) : Int := c.S - x * c.q
def r (c : Crs) (x : Int) : Int := c.off x % c.d
def each (c : Crs) (x : Int) : Int := (c.q - 1 - c.r x) / c.d + 1
/-- whether it is in the house x at k -/
def vis (c : Crs) (x : Int) (k : Nat) : Bool := decide ((c.e * (k : Int) + c.off x) % c.m < c.q)
structure Ok (c : Crs) : Prop where
  h1 : 1 ≤ c.h
  q1 : 1 ≤ c.q
  S0 : 0 ≤ c.S
  Sm : c.S < c.m
  e0 : 0 ≤ c.e
  em : c.e < c.m
  one : c.h = 1 → c.q = 1
section
variable {c : Crs} {x : Int}
theorem Ok.qm (o : c.Ok) : c.q ≤ c.m := by
  have h1 := o.h1
  have q1 := o.q1
  unfold m
  have := Int.mul_le_mul_of_nonneg_left h1 (show 0 ≤ c.q by omega)
  omega
theorem Ok.m1 (o : c.Ok) : 1 ≤ c.m := by have := o.qm; have := o.q1; omega
theorem Ok.d1 (o : c.Ok) : 1 ≤ c.d := by
  have h : 0 < Nat.gcd c.e.natAbs c.m.natAbs := Nat.gcd_pos_of_pos_right _ (by have := o.m1; omega)
  unfold d; omega
theorem d_dvd_e (c : Crs) : c.d ∣ c.e := Int.ofNat_dvd_left.mpr (Nat.gcd_dvd_left _ _)
theorem d_dvd_m (c : Crs) : c.d ∣ c.m := Int.ofNat_dvd_left.mpr (Nat.gcd_dvd_right _ _)
theorem dp (c : Crs) : c.d * c.p = c.e := Int.mul_ediv_cancel' c.d_dvd_e
theorem dM (c : Crs) : c.d * c.M = c.m := Int.mul_ediv_cancel' c.d_dvd_m
theorem Ok.M1 (o : c.Ok) : 1 ≤ c.M := by
  have h := c.dM
  have m1 := o.m1
  have d1 := o.d1
  by_cases z : 1 ≤ c.M
  · exact z
  · have := Int.mul_le_mul_of_nonneg_left (show c.M ≤ 0 by omega) (show 0 ≤ c.d by omega)
    omega
theorem Ok.Mm (o : c.Ok) : c.M ≤ c.m := by
  have h := c.dM
  have d1 := o.d1
  have M1 := o.M1
  have := Int.mul_le_mul_of_nonneg_right d1 (show 0 ≤ c.M by omega)
  omega
theorem Ok.p0 (o : c.Ok) : 0 ≤ c.p := Int.ediv_nonneg o.e0 (by have := o.d1; omega)
theorem Ok.unit (o : c.Ok) : Unit c.p c.M := by
  obtain ⟨a, b, h⟩ := bezout c.e.natAbs c.m.natAbs
  have e1 : ((c.e.natAbs : Nat) : Int) = c.e := Int.natAbs_of_nonneg o.e0
  have e2 : ((c.m.natAbs : Nat) : Int) = c.m := Int.natAbs_of_nonneg (by have := o.m1; omega)
  rw [e1, e2] at h
  have h' : c.e * a + c.m * b = c.d := h
  rw [← c.dp, ← c.dM] at h'
  refine ⟨a, b, ?_⟩
  have d1 := o.d1
  have q : c.d * (c.p * a + c.M * b) = c.d * 1 := by
    rw [Int.mul_add, ← Int.mul_assoc, ← Int.mul_assoc, h', Int.mul_one]
  exact Int.eq_of_mul_eq_mul_left (by omega) q
theorem Ok.r0 (o : c.Ok) (x : Int) : 0 ≤ c.r x := Int.emod_nonneg _ (by have := o.d1; omega)
theorem Ok.rd (o : c.Ok) (x : Int) : c.r x < c.d := Int.emod_lt_of_pos _ (by have := o.d1; omega)
def cc (c : Crs) (x : Int) : Int := c.off x / c.d
theorem off_eq (c : Crs) (x : Int) : c.off x = c.r x + c.d * c.cc x := by
  have := Int.emod_add_mul_ediv (c.off x) c.d
  unfold r cc; omega
/-- the mark at k, by its place -/
theorem Ok.mark (o : c.Ok) (x : Int) (k : Nat) : (c.e * (k : Int) + c.off x) % c.m = c.r x + c.d * plc c.M (c.cc x) c.p k := by
  have d1 := o.d1
  have M1 := o.M1
  have r0 := o.r0 x
  have rd := o.rd x
  have z0 := plc_nonneg (M := c.M) (c := c.cc x) (p := c.p) (k := k) (by omega)
  have z1 := plc_lt (M := c.M) (c := c.cc x) (p := c.p) (k := k) (by omega)
  have dz0 := Int.mul_nonneg (show 0 ≤ c.d by omega) z0
  have dz1 := Int.mul_le_mul_of_nonneg_left (show plc c.M (c.cc x) c.p k ≤ c.M - 1 by omega) (show 0 ≤ c.d by omega)
  rw [Int.mul_sub, c.dM] at dz1
  refine emod_of (k := (c.cc x + c.p * (k : Int)) / c.M) ?_ (by omega) (by omega)
  have e := Int.emod_add_mul_ediv (c.cc x + c.p * (k : Int)) c.M
  have e2 : c.d * (c.cc x + c.p * (k : Int)) = c.d * plc c.M (c.cc x) c.p k + c.m * ((c.cc x + c.p * (k : Int)) / c.M) := by
    rw [← c.dM, Int.mul_assoc, ← Int.mul_add]
    unfold plc
    rw [e]
  have e3 : c.e * (k : Int) = c.d * (c.p * (k : Int)) := by rw [← Int.mul_assoc, c.dp]
  rw [e3, c.off_eq x]
  rw [Int.mul_add] at e2
  omega
theorem Ok.vis_iff (o : c.Ok) (x : Int) (k : Nat) : c.vis x k = true ↔ plc c.M (c.cc x) c.p k < c.each x := by
  have d1 := o.d1
  unfold vis
  rw [decide_eq_true_iff, o.mark x k]
  have h := le_div (m := c.d) (x := plc c.M (c.cc x) c.p k) (y := c.q - 1 - c.r x) (by omega)
  unfold each
  rw [Int.mul_comm] at h
  omega
theorem Ok.each0 (o : c.Ok) (x : Int) : 0 ≤ c.each x := by
  have h := le_div (m := c.d) (x := -1) (y := c.q - 1 - c.r x) (by have := o.d1; omega)
  have q1 := o.q1
  have rd := o.rd x
  unfold each
  have : -1 ≤ (c.q - 1 - c.r x) / c.d := h.mpr (by omega)
  omega
theorem Ok.each_le (o : c.Ok) (x : Int) : c.d * (c.each x - 1) ≤ c.q - 1 := by
  have h := Int.mul_ediv_self_le (x := c.q - 1 - c.r x) (k := c.d) (by have := o.d1; omega)
  have r0 := o.r0 x
  unfold each
  rw [Int.add_sub_cancel]
  omega
theorem Ok.eachM (o : c.Ok) (x : Int) : c.each x ≤ c.M := by
  have h := o.each_le x
  have qm := o.qm
  rw [← c.dM] at qm
  have : c.d * (c.each x - 1) < c.d * c.M := by omega
  have := Int.lt_of_mul_lt_mul_left this (by have := o.d1; omega)
  omega
theorem Ok.half (o : c.Ok) (x : Int) (h2 : 2 ≤ c.each x) : 2 * (c.each x - 1) < c.M := by
  have h := o.each_le x
  have q1 := o.q1
  have d1 := o.d1
  have hne : 2 ≤ c.h := by
    by_cases z : c.h = 1
    · exfalso
      have q := o.one z
      rw [q] at h
      have := Int.mul_le_mul_of_nonneg_left (show 1 ≤ c.each x - 1 by omega) (show 0 ≤ c.d by omega)
      omega
    · have := o.h1; omega
  have h3 := Int.mul_le_mul_of_nonneg_left hne (show 0 ≤ c.q by omega)
  have h4 : c.d * (2 * (c.each x - 1)) < c.d * c.M := by
    rw [c.dM]
    have : c.d * (2 * (c.each x - 1)) = 2 * (c.d * (c.each x - 1)) := Int.mul_left_comm _ _ _
    unfold m
    omega
  exact Int.lt_of_mul_lt_mul_left h4 (by omega)
def Mn (c : Crs) : Nat := c.M.toNat
theorem Ok.Mn (o : c.Ok) : ((c.Mn : Nat) : Int) = c.M := Int.toNat_of_nonneg (by have := o.M1; omega)
theorem Ok.Mpos (o : c.Ok) : 0 < c.Mn := by have := o.Mn; have := o.M1; omega
theorem vis_ind (k : Nat) : ind ((c.e * (k : Int) + c.off x) % c.m < c.q) = ind (c.vis x k = true) := ind_congr (by unfold vis; rw [decide_eq_true_iff])
/-- at how many numbers of a turn -/
theorem Ok.count (o : c.Ok) (x : Int) : sumN c.Mn (fun k => ind ((c.e * (k : Int) + c.off x) % c.m < c.q)) = c.each x := by
  rw [sumN_congr (g := fun k => ind (plc c.M (c.cc x) c.p k < c.each x)) fun k _ => by rw [vis_ind]; exact ind_congr (o.vis_iff x k)]
  have h := count_plc (M := c.Mn) (c := c.cc x) (p := c.p) (B := c.each x) o.Mpos (by rw [o.Mn]; exact o.unit) (o.each0 x) (by rw [o.Mn]; exact o.eachM x)
  rw [o.Mn] at h
  exact h
theorem Ok.per (o : c.Ok) (x : Int) (k : Nat) : c.vis x (k + c.Mn) = c.vis x k := by
  have h : plc c.M (c.cc x) c.p (k + c.Mn) = plc c.M (c.cc x) c.p k := by
    have := plc_turn (M := c.Mn) (c := c.cc x) (p := c.p) k
    rw [o.Mn] at this
    exact this
  have a := o.vis_iff x (k + c.Mn)
  have b := o.vis_iff x k
  rw [h, ← b] at a
  exact Bool.eq_iff_iff.mpr a
/-- a house that is not reached is never come to -/
theorem Ok.never (o : c.Ok) (h : c.each x = 0) (k : Nat) : c.vis x k = false := by
  rw [Bool.eq_false_iff]
  intro z
  have := (o.vis_iff x k).mp z
  have := plc_nonneg (M := c.M) (c := c.cc x) (p := c.p) (k := k) (by have := o.M1; omega)
  omega
theorem Ok.some (o : c.Ok) (h : 1 ≤ c.each x) : ∃ k, k < c.Mn ∧ c.vis x k = true := by
  have s := o.count x
  by_cases z : ∃ k, k < c.Mn ∧ c.vis x k = true
  · exact z
  · exfalso
    rw [sumN_congr (g := fun _ => 0) fun k hk => by rw [vis_ind]; exact ind_neg fun q => z ⟨k, hk, q⟩, sumN_zero] at s
    omega
end
end Crs

/-! ### the gaps of a house -/
/-- the least number of steps up and down, by how many places -/
structure Crs.Ud (c : Crs) (x u w : Int) : Prop where
  ok : c.Ok
  two : 2 ≤ c.each x
  up : Least c.M c.p 1 (c.each x - 1) u
  dn : Least c.M (-c.p) 1 (c.each x - 1) w
theorem Crs.Ud.rot {c : Crs} {x u w : Int} (k : c.Ud x u w) : Rot c.M c.p (c.each x) u w := ⟨k.ok.unit, k.two, k.ok.half x k.two, k.up, k.dn⟩
theorem Crs.Ud.rotN {c : Crs} {x u w : Int} (k : c.Ud x u w) : Rot (c.Mn : Int) c.p (c.each x) u w := by rw [k.ok.Mn]; exact k.rot
def Crs.gap (c : Crs) (x u w : Int) (k : Nat) : Int := gapAt c.M c.p (c.each x) u w (plc c.M (c.cc x) c.p k)

theorem Crs.Ud.gp {c : Crs} {x u w : Int} (k : c.Ud x u w) : Gp (c.vis x) (c.gap x u w) c.Mn := by
  have M1 := k.ok.M1
  have R := k.rot
  have at_ : ∀ j, c.vis x j = true → 0 < c.gap x u w j ∧ _ ∧ _ := fun j h => R.gap (x := plc c.M (c.cc x) c.p j) (plc_nonneg (by omega)) ((k.ok.vis_iff x j).mp h)
  refine ⟨k.ok.per x, fun j h => (at_ j h).1, fun j h => ?_, fun j t h t0 tg => ?_, k.ok.some (by have := k.two; omega)⟩
  · obtain ⟨g0, g1, _⟩ := at_ j h
    rw [k.ok.vis_iff, plc_add, Int.toNat_of_nonneg (by omega)]
    exact g1
  · obtain ⟨_, _, g2⟩ := at_ j h
    rw [Bool.eq_false_iff]
    intro z
    rw [k.ok.vis_iff, plc_add] at z
    have := g2 (t : Int) (by omega) tg
    omega

/-- what the program tells of the gaps: each with how often it comes -/
def gapL (u w s z B : Int) : List (Int × Int) := (if u < w then [(u, B - s), (w, B - z)] else [(w, B - z), (u, B - s)]) ++ (if B < s + z then [(u + w, s + z - B)] else [])
/-- ascending by the first -/
abbrev Asc (L : List (Int × Int)) : Prop := L.Pairwise (fun a b => a.1 < b.1)

theorem asc_ext : ∀ {L K : List (Int × Int)}, Asc L → Asc K → (∀ a, a ∈ L ↔ a ∈ K) → L = K
  | [], [], _, _, _ => rfl
  | [], b :: K, _, _, h => by have := (h b).mpr List.mem_cons_self; cases this
  | a :: L, [], _, _, h => by have := (h a).mp List.mem_cons_self; cases this
  | a :: L, b :: K, p, q, h => by
    obtain ⟨p1, p2⟩ := List.pairwise_cons.mp p
    obtain ⟨q1, q2⟩ := List.pairwise_cons.mp q
    have e : a = b := by
      rcases List.mem_cons.mp ((h a).mp List.mem_cons_self) with z | z
      · exact z
      · rcases List.mem_cons.mp ((h b).mpr List.mem_cons_self) with y | y
        · exact y.symm
        · have := q1 a z; have := p1 b y; omega
    subst e
    rw [asc_ext p2 q2 fun v => ?_]
    constructor
    · intro hv
      rcases List.mem_cons.mp ((h v).mp (List.mem_cons_of_mem _ hv)) with z | z
      · have := p1 v hv; rw [z] at this; omega
      · exact z
    · intro hv
      rcases List.mem_cons.mp ((h v).mpr (List.mem_cons_of_mem _ hv)) with z | z
      · have := q1 v hv; rw [z] at this; omega
      · exact z

/-- the gaps of a house, told right: B visits in a turn M, f the visits -/
structure Told (f : Nat → Bool) (M : Nat) (B : Int) (L : List (Int × Int)) : Prop where
  asc : Asc L
  pos : ∀ a ∈ L, 0 < a.1 ∧ 0 < a.2
  len0 : 1 ≤ L.length
  len3 : L.length ≤ 3
  three : ∀ a b c, L = [a, b, c] → a.1 + b.1 = c.1
  many : (L.map (·.2)).sum = B
  turn : (L.map (fun a => a.1 * a.2)).sum = (M : Int)
  gap : ∃ g : Nat → Int, Gp f g M ∧ (∀ k, f k = true → g k ∈ L.map (·.1)) ∧ ∀ v n, (v, n) ∈ L ↔ 0 < n ∧ n = sumN M (fun k => if f k = true then ind (g k = v) else 0)

theorem Crs.Ud.told {c : Crs} {x u w : Int} (k : c.Ud x u w) : Told (c.vis x) c.Mn (c.each x) (gapL u w (c.p * u % c.M) (-c.p * w % c.M) (c.each x)) := by
  have R := k.rot
  have s := R.s1
  have z := R.z1
  have sz := R.sz
  have u1 := R.u1
  have w1 := R.w1
  have ne := R.ne
  have G := k.gp
  have cnt : ∀ F : Int → Int, sumN c.Mn (fun j => if c.vis x j = true then F (c.gap x u w j) else 0) = F u * (c.each x - c.p * u % c.M) + F w * (c.each x - -c.p * w % c.M) + F (u + w) * (c.p * u % c.M + -c.p * w % c.M - c.each x) := fun F => by
    have h := k.rotN.sum (c.cc x) F
    rw [k.ok.Mn] at h
    rw [← h]
    refine sumN_congr fun j _ => ?_
    by_cases q : c.vis x j = true
    · rw [if_pos q, if_pos ((k.ok.vis_iff x j).mp q)]; rfl
    · rw [if_neg q, if_neg (fun y => q ((k.ok.vis_iff x j).mpr y))]
  have tot := G.sum
  rw [cnt (fun v => v)] at tot
  generalize hs : c.p * u % c.M = S at *
  generalize hz : -c.p * w % c.M = Z at *
  generalize hB : c.each x = B at *
  have third : (if B < S + Z then [(u + w, S + Z - B)] else ([] : List (Int × Int))) = [(u + w, S + Z - B)] ∧ B < S + Z ∨ (if B < S + Z then [(u + w, S + Z - B)] else ([] : List (Int × Int))) = [] ∧ S + Z = B := by
    by_cases h : B < S + Z
    · rw [if_pos h]; exact Or.inl ⟨rfl, h⟩
    · rw [if_neg h]; exact Or.inr ⟨rfl, by omega⟩
  have first : (if u < w then [(u, B - S), (w, B - Z)] else ([(w, B - Z), (u, B - S)] : List (Int × Int))) = [(u, B - S), (w, B - Z)] ∧ u < w ∨ (if u < w then [(u, B - S), (w, B - Z)] else ([(w, B - Z), (u, B - S)] : List (Int × Int))) = [(w, B - Z), (u, B - S)] ∧ w < u := by
    by_cases h : u < w
    · rw [if_pos h]; exact Or.inl ⟨rfl, h⟩
    · rw [if_neg h]; exact Or.inr ⟨rfl, by omega⟩
  have mem : ∀ v n, (v, n) ∈ gapL u w S Z B ↔ (v = u ∧ n = B - S) ∨ (v = w ∧ n = B - Z) ∨ (v = u + w ∧ n = S + Z - B ∧ B < S + Z) := fun v n => by
    unfold gapL
    rcases first with ⟨e1, _⟩ | ⟨e1, _⟩ <;> rcases third with ⟨e2, h2⟩ | ⟨e2, h2⟩ <;> rw [e1, e2] <;> simp <;> omega
  have sorted : Asc (gapL u w S Z B) := by
    unfold gapL Asc
    rcases first with ⟨e1, _⟩ | ⟨e1, _⟩ <;> rcases third with ⟨e2, h2⟩ | ⟨e2, h2⟩ <;> rw [e1, e2] <;> simp <;> omega
  refine ⟨sorted, fun a ha => ?_, ?_, ?_, ?_, ?_, ?_, c.gap x u w, G, fun j hj => ?_, fun v n => ?_⟩
  · have := (mem a.1 a.2).mp ha
    omega
  · unfold gapL
    rcases first with ⟨e1, _⟩ | ⟨e1, _⟩ <;> rcases third with ⟨e2, h2⟩ | ⟨e2, h2⟩ <;> rw [e1, e2] <;> simp
  · unfold gapL
    rcases first with ⟨e1, _⟩ | ⟨e1, _⟩ <;> rcases third with ⟨e2, h2⟩ | ⟨e2, h2⟩ <;> rw [e1, e2] <;> simp
  · intro a b d
    unfold gapL
    rcases first with ⟨e1, _⟩ | ⟨e1, _⟩ <;> rcases third with ⟨e2, h2⟩ | ⟨e2, h2⟩ <;> rw [e1, e2] <;> intro h <;> simp at h <;> obtain ⟨h1, h2, h3⟩ := h <;> subst h1 <;> subst h2 <;> subst h3 <;> simp <;> omega
  · unfold gapL
    rcases first with ⟨e1, _⟩ | ⟨e1, _⟩ <;> rcases third with ⟨e2, h2⟩ | ⟨e2, h2⟩ <;> rw [e1, e2] <;> simp <;> omega
  · rw [← tot]
    unfold gapL
    rcases first with ⟨e1, _⟩ | ⟨e1, _⟩ <;> rcases third with ⟨e2, h2⟩ | ⟨e2, h2⟩ <;> rw [e1, e2] <;> simp
    · omega
    · rw [show S + Z - B = 0 by omega, Int.mul_zero]; omega
    · omega
    · rw [show S + Z - B = 0 by omega, Int.mul_zero]; omega
  · rw [List.mem_map]
    have gv : c.gap x u w j = u ∨ c.gap x u w j = w ∨ (c.gap x u w j = u + w ∧ B < S + Z) := by
      unfold Crs.gap gapAt
      rw [hs, hz, hB]
      by_cases h1 : plc c.M (c.cc x) c.p j < B - S
      · rw [if_pos h1]; exact Or.inl rfl
      · rw [if_neg h1]
        by_cases h2 : Z ≤ plc c.M (c.cc x) c.p j
        · rw [if_pos h2]; exact Or.inr (Or.inl rfl)
        · rw [if_neg h2]; exact Or.inr (Or.inr ⟨rfl, by omega⟩)
    rcases gv with h | h | ⟨h, h'⟩
    · exact ⟨(u, B - S), (mem _ _).mpr (Or.inl ⟨rfl, rfl⟩), h.symm⟩
    · exact ⟨(w, B - Z), (mem _ _).mpr (Or.inr (Or.inl ⟨rfl, rfl⟩)), h.symm⟩
    · exact ⟨(u + w, S + Z - B), (mem _ _).mpr (Or.inr (Or.inr ⟨rfl, rfl, h'⟩)), h.symm⟩
  · rw [mem, cnt (fun a => ind (a = v))]
    show _ ↔ 0 < n ∧ n = ind (u = v) * (B - S) + ind (w = v) * (B - Z) + ind (u + w = v) * (S + Z - B)
    by_cases h1 : u = v
    · rw [ind_pos h1, ind_neg (show ¬ w = v by omega), ind_neg (show ¬ u + w = v by omega)]; omega
    · rw [ind_neg h1]
      by_cases h2 : w = v
      · rw [ind_pos h2, ind_neg (show ¬ u + w = v by omega)]; omega
      · rw [ind_neg h2]
        by_cases h3 : u + w = v
        · rw [ind_pos h3]; omega
        · rw [ind_neg h3]; omega

/-- one visit in a turn -/
theorem Crs.Ok.told1 {c : Crs} {x : Int} (o : c.Ok) (h : c.each x = 1) : Told (c.vis x) c.Mn (c.each x) [(c.M, 1)] := by
  have M1 := o.M1
  have Mn := o.Mn
  have z : ∀ k, c.vis x k = true ↔ plc c.M (c.cc x) c.p k = 0 := fun k => by
    have a := o.vis_iff x k
    have b := plc_nonneg (M := c.M) (c := c.cc x) (p := c.p) (k := k) (by omega)
    rw [a]; omega
  have cnt : sumN c.Mn (fun k => if c.vis x k = true then (1 : Int) else 0) = 1 := by
    have s := o.count x
    rw [h] at s
    refine Eq.trans (sumN_congr fun k _ => ?_) s
    rw [vis_ind]; rfl
  refine ⟨List.pairwise_singleton _ _, ?_, by simp, by simp, by simp, by simp [h], by simp [Mn], fun _ => c.M, ⟨o.per x, fun _ _ => by omega, fun k hk => by rw [show c.M.toNat = c.Mn from rfl, o.per]; exact hk, fun k t hk t0 tM => ?_, o.some (by omega)⟩, by simp, fun v n => ?_⟩
  · intro a ha
    rw [List.mem_singleton] at ha
    subst ha
    simp; omega
  · rw [Bool.eq_false_iff]
    intro q
    rw [z] at hk q
    rw [plc_add, hk, Int.zero_add] at q
    have d := o.unit.dvd (Int.dvd_of_emod_eq_zero q)
    have := Int.le_of_dvd (by omega) d
    omega
  · by_cases q : c.M = v
    · rw [sumN_congr (g := fun k => if c.vis x k = true then (1 : Int) else 0) fun k _ => by rw [ind_pos q], cnt]
      simp; omega
    · rw [sumN_congr (g := fun _ => 0) fun k _ => by rw [ind_neg q]; split <;> rfl, sumN_zero]
      simp; omega
end K21

/-! Courses: the form, the next visit, windows. Plain Lean. -/
set_option linter.all false
namespace K21

/-- the house of a mark -/
theorem house_iff {y q h x : Int} (q0 : 0 < q) (h0 : 0 < h) (x0 : 0 ≤ x) (xh : x < h) : y / q % h = x ↔ (y - x * q) % (q * h) < q := by
  have e := Int.emod_add_mul_ediv y q
  have b0 := Int.emod_nonneg y (show q ≠ 0 by omega)
  have b1 := Int.emod_lt_of_pos y q0
  have f := Int.emod_add_mul_ediv (y / q - x) h
  have t0 := Int.emod_nonneg (y / q - x) (show h ≠ 0 by omega)
  have t1 := Int.emod_lt_of_pos (y / q - x) h0
  have qt0 := Int.mul_nonneg (Int.le_of_lt q0) t0
  have qt1 := Int.mul_le_mul_of_nonneg_left (show (y / q - x) % h ≤ h - 1 by omega) (Int.le_of_lt q0)
  rw [Int.mul_sub, Int.mul_one] at qt1
  have key : (y - x * q) % (q * h) = q * ((y / q - x) % h) + y % q := by
    refine emod_of (k := (y / q - x) / h) ?_ (by omega) (by omega)
    have e2 : q * (y / q - x) = q * ((y / q - x) % h) + q * h * ((y / q - x) / h) := by
      rw [Int.mul_assoc, ← Int.mul_add, f]
    rw [Int.mul_sub] at e2
    rw [Int.mul_comm x q]
    omega
  rw [key]
  constructor
  · intro hx
    have : (y / q - x) % h = 0 := by
      have g := Int.emod_add_mul_ediv (y / q) h
      exact emod_of (k := y / q / h) (by omega) (by omega) (by omega)
    rw [this, Int.mul_zero]; omega
  · intro hl
    have z : (y / q - x) % h = 0 := by
      by_cases c : (y / q - x) % h = 0
      · exact c
      · have := Int.mul_le_mul_of_nonneg_left (show 1 ≤ (y / q - x) % h by omega) (Int.le_of_lt q0)
        omega
    rw [z] at f
    have : y / q = x + h * ((y / q - x) / h) := by omega
    rw [this, Int.add_mul_emod_self_left, Int.emod_eq_of_lt x0 xh]

/-- the form of a course -/
def nrm (h s e q : Int) : Crs :=
  let q' := if 1 < h then q else 1
  { h := h, q := q', S := (if h = 2 ∧ q < e % (q' * h) then q - 1 - s else s) % (q' * h), e := (if h = 2 ∧ q < e % (q' * h) then -e else e) % (q' * h) }
theorem nrm_m (h s e q : Int) : (nrm h s e q).m = (if 1 < h then q else 1) * h := rfl
theorem nrm_ok {h s e q : Int} (h1 : 1 ≤ h) (q1 : 1 ≤ q) : (nrm h s e q).Ok := by
  have q1' : 1 ≤ (if 1 < h then q else 1) := by split <;> omega
  have m1 : 0 < (if 1 < h then q else 1) * h := Int.mul_pos (by omega) (by omega)
  refine ⟨h1, q1', Int.emod_nonneg _ (by omega), Int.emod_lt_of_pos _ m1, Int.emod_nonneg _ (by omega), Int.emod_lt_of_pos _ m1, fun e => ?_⟩
  have e' : h = 1 := e
  show (if 1 < h then q else 1) = 1
  rw [if_neg (by omega)]

theorem add_emod_mul (a b k m : Int) : (a % m * k + (b % m - c)) % m = (a * k + (b - c)) % m := by
  rw [Int.add_emod, Int.mul_emod, Int.emod_emod_of_dvd _ (Int.dvd_refl m), ← Int.mul_emod, Int.sub_emod (b % m), Int.emod_emod_of_dvd _ (Int.dvd_refl m), ← Int.sub_emod, ← Int.add_emod]

theorem nrm_vis {h s e q x : Int} (h1 : 1 ≤ h) (q1 : 1 ≤ q) (x0 : 0 ≤ x) (xh : x < h) (k : Nat) : (nrm h s e q).vis x k = true ↔ (s + e * (k : Int)) / q % h = x := by
  unfold Crs.vis
  rw [decide_eq_true_iff]
  by_cases hh : h = 1
  · subst hh
    have m1 : (nrm 1 s e q).m = 1 := rfl
    have q1' : (nrm 1 s e q).q = 1 := rfl
    rw [m1, q1']
    omega
  · have hq : (nrm h s e q).q = q := if_pos (by omega)
    have hm : (nrm h s e q).m = q * h := by rw [nrm_m, if_pos (by omega)]
    have hq' : (if 1 < h then q else 1) = q := if_pos (by omega)
    by_cases tn : h = 2 ∧ q < e % (q * h)
    · have hS : (nrm h s e q).S = (q - 1 - s) % (q * h) := by unfold nrm; simp only [hq', if_pos tn]
      have he : (nrm h s e q).e = (-e) % (q * h) := by unfold nrm; simp only [hq', if_pos tn]
      unfold Crs.off
      rw [hm, hq, hS, he, add_emod_mul]
      have e1 : -e * (k : Int) + (q - 1 - s - x * q) = (q - 1 - (s + e * (k : Int))) - x * q := by rw [Int.neg_mul]; omega
      rw [e1, ← house_iff (by omega) (by omega) x0 xh]
      have e2 : (q - 1 - (s + e * (k : Int))) / q = -((s + e * (k : Int)) / q) := by
        have d := Int.emod_add_mul_ediv (s + e * (k : Int)) q
        have d0 := Int.emod_nonneg (s + e * (k : Int)) (show q ≠ 0 by omega)
        have d1 := Int.emod_lt_of_pos (s + e * (k : Int)) (show 0 < q by omega)
        have e3 : q - 1 - (s + e * (k : Int)) = (q - 1 - (s + e * (k : Int)) % q) + q * (-((s + e * (k : Int)) / q)) := by rw [Int.mul_neg]; omega
        rw [e3, Int.add_mul_ediv_left _ _ (by omega), Int.ediv_eq_zero_of_lt (by omega) (by omega)]
        omega
      rw [e2, tn.1]
      omega
    · have hS : (nrm h s e q).S = s % (q * h) := by unfold nrm; simp only [hq', if_neg tn]
      have he : (nrm h s e q).e = e % (q * h) := by unfold nrm; simp only [hq', if_neg tn]
      unfold Crs.off
      rw [hm, hq, hS, he, add_emod_mul]
      have e1 : e * (k : Int) + (s - x * q) = (s + e * (k : Int)) - x * q := by omega
      rw [e1, house_iff (by omega) (by omega) x0 xh]

/-! ### the next visit -/
def IsFrom (m e st q t : Int) : Prop := 0 ≤ t ∧ (e * t + st) % m < q ∧ ∀ t', 0 ≤ t' → (e * t' + st) % m < q → t ≤ t'
theorem from_zero {m e st q : Int} (hm : 0 < m) (hq : 0 < q) (h : m < -st % m + q) (qm : q ≤ m) : IsFrom m e st q 0 := by
  refine ⟨Int.le_refl 0, ?_, fun t' h0 _ => h0⟩
  rw [Int.mul_zero, Int.zero_add]
  have d := Int.emod_add_mul_ediv (-st) m
  have l1 := Int.emod_lt_of_pos (-st) hm
  rw [emod_of (r := m - -st % m) (k := -(-st / m) - 1) (by rw [Int.mul_sub, Int.mul_neg]; omega) (by omega) (by omega)]
  omega
theorem hit_from {m e st q t : Int} (hm : 0 < m) (h : -st % m + q ≤ m) : (0 ≤ t ∧ (e * t + st) % m < q) ↔ Hit m e (-st % m) (-st % m + q - 1) t := by
  unfold Hit
  have d := Int.emod_add_mul_ediv (-st) m
  have l0 := Int.emod_nonneg (-st) (show m ≠ 0 by omega)
  have l1 := Int.emod_lt_of_pos (-st) hm
  have g := Int.emod_add_mul_ediv (e * t) m
  have g0 := Int.emod_nonneg (e * t) (show m ≠ 0 by omega)
  have g1 := Int.emod_lt_of_pos (e * t) hm
  by_cases z : -st % m ≤ e * t % m
  · have e1 : (e * t + st) % m = e * t % m - -st % m := emod_of (k := e * t / m - -st / m) (by rw [Int.mul_sub]; omega) (by omega) (by omega)
    rw [e1]
    omega
  · have e1 : (e * t + st) % m = e * t % m - -st % m + m := emod_of (k := e * t / m - -st / m - 1) (by rw [Int.mul_sub, Int.mul_sub]; omega) (by omega) (by omega)
    rw [e1]
    omega
theorem from_least {m e st q t : Int} (hm : 0 < m) (h : -st % m + q ≤ m) (l : Least m e (-st % m) (-st % m + q - 1) t) : IsFrom m e st q t := by
  obtain ⟨a, b⟩ := (hit_from hm h).mpr l.1
  exact ⟨a, b, fun t' h0 h1 => l.2 t' ((hit_from hm h).mp ⟨h0, h1⟩)⟩
theorem from_ask {m e st q : Int} (hm : 0 < m) (hq : 0 < q) (h : -st % m + q ≤ m) (e0 : 0 ≤ e) (em : e < m) (ex : ∃ t, 0 ≤ t ∧ (e * t + st) % m < q) : Ask m e (-st % m) (-st % m + q - 1) := by
  obtain ⟨t, a, b⟩ := ex
  exact ⟨hm, e0, em, Int.emod_nonneg _ (by omega), by omega, by omega, t, (hit_from hm h).mp ⟨a, b⟩⟩

namespace Crs
variable {c : Crs} {x : Int}
/-- what next_visit asks -/
def st (c : Crs) (x k : Int) : Int := c.S + c.e * k - x * c.q
theorem vis_st (c : Crs) (x : Int) (k t : Nat) : c.vis x (k + t) = true ↔ (c.e * (t : Int) + c.st x k) % c.m < c.q := by
  unfold vis
  rw [decide_eq_true_iff]
  have e1 : c.e * ((k + t : Nat) : Int) + c.off x = c.e * (t : Int) + c.st x k := by
    unfold st off
    rw [Int.natCast_add, Int.mul_add]; omega
  rw [e1]
theorem from_nx (k : Nat) {t : Int} (h : IsFrom c.m c.e (c.st x k) c.q t) : IsNx (c.vis x) k t.toNat := by
  obtain ⟨t0, h1, h2⟩ := h
  have e : ((t.toNat : Nat) : Int) = t := Int.toNat_of_nonneg t0
  refine ⟨(vis_st c x k _).mpr (by rw [e]; exact h1), fun j hj => ?_⟩
  rw [Bool.eq_false_iff]
  intro z
  have := h2 (j : Int) (by omega) ((vis_st c x k j).mp z)
  omega
theorem Ok.st_ex (o : c.Ok) (h : 1 ≤ c.each x) (k : Nat) : ∃ t : Int, 0 ≤ t ∧ (c.e * t + c.st x k) % c.m < c.q := by
  obtain ⟨j, hj, ej⟩ := o.some h
  have per : ∀ n i, c.vis x (i + n * c.Mn) = c.vis x i := fun n => by
    induction n with
    | zero => intro i; rw [Nat.zero_mul, Nat.add_zero]
    | succ n ih => intro i; rw [Nat.succ_mul, ← Nat.add_assoc, o.per, ih]
  refine ⟨((j + k * c.Mn - k : Nat) : Int), by omega, (vis_st c x k _).mp ?_⟩
  have hM := o.Mpos
  have : k ≤ k * c.Mn := Nat.le_mul_of_pos_right _ hM
  rw [show k + (j + k * c.Mn - k) = j + k * c.Mn by omega, per, ej]
end Crs

/-! ### windows -/
theorem sub_emod_r (k a m : Int) : (k - a % m) % m = (k - a) % m := by
  have e : k - a % m = (k - a) + m * (a / m) := by
    have := Int.emod_add_mul_ediv a m
    omega
  rw [e, Int.add_mul_emod_self_left]
/-- in the window with this first number -/
theorem win_up {m S z q k : Int} : (k - (z - S) % m) % m < q ↔ (1 * k + (S - z)) % m < q := by
  rw [sub_emod_r, Int.one_mul, show k - (z - S) = k + (S - z) by omega]
theorem win_down {m S z q k : Int} (hm : 0 < m) (q0 : 0 ≤ q) (hq : q ≤ m) : (k - (S - z - q + 1) % m) % m < q ↔ (-1 * k + (S - z)) % m < q := by
  rw [sub_emod_r]
  generalize hy : -1 * k + (S - z) = y
  have e2 : k - (S - z - q + 1) = q - 1 - y := by omega
  rw [e2]
  have d := Int.emod_add_mul_ediv y m
  have b0 := Int.emod_nonneg y (show m ≠ 0 by omega)
  have b1 := Int.emod_lt_of_pos y hm
  by_cases h : y % m < q
  · rw [emod_of (a := q - 1 - y) (r := q - 1 - y % m) (k := -(y / m)) (by rw [Int.mul_neg]; omega) (by omega) (by omega)]
    omega
  · rw [emod_of (a := q - 1 - y) (r := q - 1 - y % m + m) (k := -(y / m) - 1) (by rw [Int.mul_sub, Int.mul_neg]; omega) (by omega) (by omega)]
    omega
/-- a rise of -1 modulo the marks is as good as -1 -/
theorem rise_congr {m e e' k s : Int} (h : e % m = e' % m) : (e * k + s) % m = (e' * k + s) % m := by
  rw [Int.add_emod, Int.mul_emod, h, ← Int.mul_emod, ← Int.add_emod]
end K21

set_option Elab.async false
set_option linter.all false
set_option maxRecDepth 100000
set_option maxHeartbeats 4000000
/-! Where the defs of the given program stand, and what the head tells of them. (printed by gen/genP.py) -/
namespace K21
open PySem L2
def top (i : Nat) : Stmt := PySem.Challenge.pw_dealtsums_k21_whole_gaps_and_windows_of.main.body.getD i (.Pass ⟨0, 0, 0, 0⟩)
abbrev s_is_integer : Stmt := top 6
abbrev s_is_whole : Stmt := top 7
abbrev s_need_integer : Stmt := top 8
abbrev s_need_whole : Stmt := top 9
abbrev s_need_positive : Stmt := top 10
abbrev s_need_below : Stmt := top 11
abbrev s_common_factor : Stmt := top 12
abbrev s_total_of : Stmt := top 14
abbrev s_count_in : Stmt := top 15
abbrev s_first_in : Stmt := top 16
abbrev s_first_from : Stmt := top 17
abbrev s_L_begin : Stmt := top 24
abbrev s_L_draw : Stmt := top 25
abbrev s_L_pick : Stmt := top 26
abbrev s_L_whole_is : Stmt := top 27
abbrev s_L_truth : Stmt := top 28
abbrev s_L_ten : Stmt := top 29
abbrev s_L_long : Stmt := top 30
abbrev s_L_size : Stmt := top 31
abbrev s_L_signed : Stmt := top 32
abbrev s_L_common : Stmt := top 33
abbrev s_L_refused : Stmt := top 34
abbrev s_L_drawn : Stmt := top 35
abbrev s_L_house : Stmt := top 36
abbrev s_L_gaps_right : Stmt := top 37
abbrev s_L_small_right : Stmt := top 38
abbrev s_L_window_right : Stmt := top 39
abbrev s_L_others_right : Stmt := top 40
abbrev s_law : Stmt := top 41
abbrev s_W_init : Stmt := inClass (top 20) 0
abbrev s_W_eq : Stmt := inClass (top 20) 1
abbrev s_W_contains : Stmt := inClass (top 20) 2
abbrev s_C_init : Stmt := inClass (top 22) 0
abbrev s_C_marks : Stmt := inClass (top 22) 3
abbrev s_C_spacing : Stmt := inClass (top 22) 4
abbrev s_C_turn : Stmt := inClass (top 22) 5
abbrev s_C_visits : Stmt := inClass (top 22) 6
abbrev s_C_counted : Stmt := inClass (top 22) 9
abbrev s_C_count : Stmt := inClass (top 22) 10
abbrev s_C_next_visit : Stmt := inClass (top 22) 12
abbrev s_C_gaps : Stmt := inClass (top 22) 13
abbrev s_C_is_resting : Stmt := inClass (top 22) 14
abbrev s_C_is_slow : Stmt := inClass (top 22) 15
abbrev s_C_begins : Stmt := inClass (top 22) 16
abbrev s_C_window : Stmt := inClass (top 22) 17
def d_is_integer : He.DefD := ⟨("is_integer", none), "is_integer", "is_integer", C8.fnArgs s_is_integer, C8.fnBody s_is_integer, C8.fnScope s_is_integer, [], []⟩
def d_is_whole : He.DefD := ⟨("is_whole", none), "is_whole", "is_whole", C8.fnArgs s_is_whole, C8.fnBody s_is_whole, C8.fnScope s_is_whole, [], []⟩
def d_need_integer : He.DefD := ⟨("need_integer", none), "need_integer", "need_integer", C8.fnArgs s_need_integer, C8.fnBody s_need_integer, C8.fnScope s_need_integer, [], []⟩
def d_need_whole : He.DefD := ⟨("need_whole", none), "need_whole", "need_whole", C8.fnArgs s_need_whole, C8.fnBody s_need_whole, C8.fnScope s_need_whole, [], []⟩
def d_need_positive : He.DefD := ⟨("need_positive", none), "need_positive", "need_positive", C8.fnArgs s_need_positive, C8.fnBody s_need_positive, C8.fnScope s_need_positive, [], []⟩
def d_need_below : He.DefD := ⟨("need_below", none), "need_below", "need_below", C8.fnArgs s_need_below, C8.fnBody s_need_below, C8.fnScope s_need_below, [], []⟩
def d_common_factor : He.DefD := ⟨("common_factor", none), "common_factor", "common_factor", C8.fnArgs s_common_factor, C8.fnBody s_common_factor, C8.fnScope s_common_factor, [], []⟩
def d_total_of : He.DefD := ⟨("total_of", none), "total_of", "total_of", C8.fnArgs s_total_of, C8.fnBody s_total_of, C8.fnScope s_total_of, [], []⟩
def d_count_in : He.DefD := ⟨("count_in", none), "count_in", "count_in", C8.fnArgs s_count_in, C8.fnBody s_count_in, C8.fnScope s_count_in, [], []⟩
def d_first_in : He.DefD := ⟨("first_in", none), "first_in", "first_in", C8.fnArgs s_first_in, C8.fnBody s_first_in, C8.fnScope s_first_in, [], []⟩
def d_first_from : He.DefD := ⟨("first_from", none), "first_from", "first_from", C8.fnArgs s_first_from, C8.fnBody s_first_from, C8.fnScope s_first_from, [], []⟩
def d_L_begin : He.DefD := ⟨("_law_begin", none), "_law_begin", "_law_begin", C8.fnArgs s_L_begin, C8.fnBody s_L_begin, C8.fnScope s_L_begin, [], []⟩
def d_L_draw : He.DefD := ⟨("_law_draw", none), "_law_draw", "_law_draw", C8.fnArgs s_L_draw, C8.fnBody s_L_draw, C8.fnScope s_L_draw, [], []⟩
def d_L_pick : He.DefD := ⟨("_law_pick", none), "_law_pick", "_law_pick", C8.fnArgs s_L_pick, C8.fnBody s_L_pick, C8.fnScope s_L_pick, [], []⟩
def d_L_whole_is : He.DefD := ⟨("_law_whole_is", none), "_law_whole_is", "_law_whole_is", C8.fnArgs s_L_whole_is, C8.fnBody s_L_whole_is, C8.fnScope s_L_whole_is, [], []⟩
def d_L_truth : He.DefD := ⟨("_law_truth", none), "_law_truth", "_law_truth", C8.fnArgs s_L_truth, C8.fnBody s_L_truth, C8.fnScope s_L_truth, [], []⟩
def d_L_ten : He.DefD := ⟨("_law_ten", none), "_law_ten", "_law_ten", C8.fnArgs s_L_ten, C8.fnBody s_L_ten, C8.fnScope s_L_ten, [], []⟩
def d_L_long : He.DefD := ⟨("_law_long", none), "_law_long", "_law_long", C8.fnArgs s_L_long, C8.fnBody s_L_long, C8.fnScope s_L_long, [], []⟩
def d_L_size : He.DefD := ⟨("_law_size", none), "_law_size", "_law_size", C8.fnArgs s_L_size, C8.fnBody s_L_size, C8.fnScope s_L_size, [], []⟩
def d_L_signed : He.DefD := ⟨("_law_signed", none), "_law_signed", "_law_signed", C8.fnArgs s_L_signed, C8.fnBody s_L_signed, C8.fnScope s_L_signed, [], []⟩
def d_L_common : He.DefD := ⟨("_law_common", none), "_law_common", "_law_common", C8.fnArgs s_L_common, C8.fnBody s_L_common, C8.fnScope s_L_common, [], []⟩
def d_L_refused : He.DefD := ⟨("_law_refused", none), "_law_refused", "_law_refused", C8.fnArgs s_L_refused, C8.fnBody s_L_refused, C8.fnScope s_L_refused, [], []⟩
def d_L_drawn : He.DefD := ⟨("_law_drawn", none), "_law_drawn", "_law_drawn", C8.fnArgs s_L_drawn, C8.fnBody s_L_drawn, C8.fnScope s_L_drawn, [], []⟩
def d_L_house : He.DefD := ⟨("_law_house", none), "_law_house", "_law_house", C8.fnArgs s_L_house, C8.fnBody s_L_house, C8.fnScope s_L_house, [], []⟩
def d_L_gaps_right : He.DefD := ⟨("_law_gaps_right", none), "_law_gaps_right", "_law_gaps_right", C8.fnArgs s_L_gaps_right, C8.fnBody s_L_gaps_right, C8.fnScope s_L_gaps_right, [], []⟩
def d_L_small_right : He.DefD := ⟨("_law_small_right", none), "_law_small_right", "_law_small_right", C8.fnArgs s_L_small_right, C8.fnBody s_L_small_right, C8.fnScope s_L_small_right, [], []⟩
def d_L_window_right : He.DefD := ⟨("_law_window_right", none), "_law_window_right", "_law_window_right", C8.fnArgs s_L_window_right, C8.fnBody s_L_window_right, C8.fnScope s_L_window_right, [], []⟩
def d_L_others_right : He.DefD := ⟨("_law_others_right", none), "_law_others_right", "_law_others_right", C8.fnArgs s_L_others_right, C8.fnBody s_L_others_right, C8.fnScope s_L_others_right, [], []⟩
def d_law : He.DefD := ⟨("law", none), "law", "law", C8.fnArgs s_law, C8.fnBody s_law, C8.fnScope s_law, [], []⟩
def d_W_init : He.DefD := ⟨("Window", some "__init__"), "__init__", "Window.__init__", C8.fnArgs s_W_init, C8.fnBody s_W_init, C8.fnScope s_W_init, [], []⟩
def d_W_eq : He.DefD := ⟨("Window", some "__eq__"), "__eq__", "Window.__eq__", C8.fnArgs s_W_eq, C8.fnBody s_W_eq, C8.fnScope s_W_eq, [], []⟩
def d_W_contains : He.DefD := ⟨("Window", some "__contains__"), "__contains__", "Window.__contains__", C8.fnArgs s_W_contains, C8.fnBody s_W_contains, C8.fnScope s_W_contains, [], []⟩
def d_C_init : He.DefD := ⟨("Course", some "__init__"), "__init__", "Course.__init__", C8.fnArgs s_C_init, C8.fnBody s_C_init, C8.fnScope s_C_init, [], []⟩
def d_C_marks : He.DefD := ⟨("Course", some "marks"), "marks", "Course.marks", C8.fnArgs s_C_marks, C8.fnBody s_C_marks, C8.fnScope s_C_marks, [], []⟩
def d_C_spacing : He.DefD := ⟨("Course", some "spacing"), "spacing", "Course.spacing", C8.fnArgs s_C_spacing, C8.fnBody s_C_spacing, C8.fnScope s_C_spacing, [], []⟩
def d_C_turn : He.DefD := ⟨("Course", some "turn"), "turn", "Course.turn", C8.fnArgs s_C_turn, C8.fnBody s_C_turn, C8.fnScope s_C_turn, [], []⟩
def d_C_visits : He.DefD := ⟨("Course", some "visits"), "visits", "Course.visits", C8.fnArgs s_C_visits, C8.fnBody s_C_visits, C8.fnScope s_C_visits, [], []⟩
def d_C_counted : He.DefD := ⟨("Course", some "counted"), "counted", "Course.counted", C8.fnArgs s_C_counted, C8.fnBody s_C_counted, C8.fnScope s_C_counted, [], []⟩
def d_C_count : He.DefD := ⟨("Course", some "count"), "count", "Course.count", C8.fnArgs s_C_count, C8.fnBody s_C_count, C8.fnScope s_C_count, [], []⟩
def d_C_next_visit : He.DefD := ⟨("Course", some "next_visit"), "next_visit", "Course.next_visit", C8.fnArgs s_C_next_visit, C8.fnBody s_C_next_visit, C8.fnScope s_C_next_visit, [], []⟩
def d_C_gaps : He.DefD := ⟨("Course", some "gaps"), "gaps", "Course.gaps", C8.fnArgs s_C_gaps, C8.fnBody s_C_gaps, C8.fnScope s_C_gaps, [], []⟩
def d_C_is_resting : He.DefD := ⟨("Course", some "is_resting"), "is_resting", "Course.is_resting", C8.fnArgs s_C_is_resting, C8.fnBody s_C_is_resting, C8.fnScope s_C_is_resting, [], []⟩
def d_C_is_slow : He.DefD := ⟨("Course", some "is_slow"), "is_slow", "Course.is_slow", C8.fnArgs s_C_is_slow, C8.fnBody s_C_is_slow, C8.fnScope s_C_is_slow, [], []⟩
def d_C_begins : He.DefD := ⟨("Course", some "begins"), "begins", "Course.begins", C8.fnArgs s_C_begins, C8.fnBody s_C_begins, C8.fnScope s_C_begins, [], []⟩
def d_C_window : He.DefD := ⟨("Course", some "window"), "window", "Course.window", C8.fnArgs s_C_window, C8.fnBody s_C_window, C8.fnScope s_C_window, [], []⟩
def fn : List He.DefD := [d_is_integer, d_is_whole, d_need_integer, d_need_whole, d_need_positive, d_need_below, d_common_factor, d_total_of, d_count_in, d_first_in, d_first_from, d_L_begin, d_L_draw, d_L_pick, d_L_whole_is, d_L_truth, d_L_ten, d_L_long, d_L_size, d_L_signed, d_L_common, d_L_refused, d_L_drawn, d_L_house, d_L_gaps_right, d_L_small_right, d_L_window_right, d_L_others_right, d_law, d_W_init, d_W_eq, d_W_contains, d_C_init, d_C_marks, d_C_spacing, d_C_turn, d_C_visits, d_C_counted, d_C_count, d_C_next_visit, d_C_gaps, d_C_is_resting, d_C_is_slow, d_C_begins, d_C_window]
def fa0 : List He.Fa := [.glo "is_integer", .glo "is_whole", .glo "need_integer", .glo "need_whole", .glo "need_positive", .glo "need_below", .glo "common_factor", .glo "total_of", .glo "count_in", .glo "first_in", .glo "first_from", .glo "_law_begin", .glo "_law_draw", .glo "_law_pick", .glo "_law_whole_is", .glo "_law_truth", .glo "_law_ten", .glo "_law_long", .glo "_law_size", .glo "_law_signed", .glo "_law_common", .glo "_law_refused", .glo "_law_drawn", .glo "_law_house", .glo "_law_gaps_right", .glo "_law_small_right", .glo "_law_window_right", .glo "_law_others_right", .glo "law", .glo "SumError"]
def fa1 : List He.Fa := [.glo "BadValue", .glo "NotTold", .glo "Window", .glo "Course", .free "isinstance", .free "int", .free "bool", .free "abs", .free "min", .free "max", .free "len", .free "list", .free "range", .free "sorted", .free "tuple", .free "sum", .free "all", .free "any", .free "repr", .free "super", .cls "Window", .mkr "Window", .noat "Window" "period", .noat "Window" "first", .noat "Window" "length", .meth "Window" "__eq__", .meth "Window" "__contains__", .cls "Course", .mkr "Course", .noat "Course" "houses"]
def fa2 : List He.Fa := [.noat "Course" "run", .noat "Course" "start", .noat "Course" "rise", .meth "Course" "marks", .meth "Course" "spacing", .meth "Course" "turn", .meth "Course" "visits", .meth "Course" "counted", .meth "Course" "count", .meth "Course" "next_visit", .meth "Course" "gaps", .meth "Course" "is_resting", .meth "Course" "is_slow", .meth "Course" "begins", .meth "Course" "window", .exc "NotTold", .exm "NotTold" "NotTold" true, .exm "BadValue" "BadValue" true, .keep "BadValue"]
def fa : List He.Fa := fa0 ++ (fa1 ++ (fa2))
end K21

set_option Elab.async false
set_option linter.all false
set_option maxRecDepth 100000
set_option maxHeartbeats 4000000
/-! What the walk leans on: the facts of the text by name, bounds, heaps. -/
namespace K21
open PySem PySem.Spec PyProof.Rows L2

structure Txt (K : PySem.W.Frag) (mg : Str → Option Value) : Prop where
  says : He.SaysD fa fn K
  glo : ∀ x, (He.Fa.glo x).ok K = true → mg x = some (.ref (He.ga K x))
  free : ∀ x, (He.Fa.free x).ok K = true → mg x = none
section
variable {K : PySem.W.Frag} {mg : Str → Option Value}
theorem Txt.g_is_integer (T : Txt K mg) : mg "is_integer" = some (.ref (He.ga K "is_integer")) := T.glo _ (T.says.fact 0 (f := .glo "is_integer") rfl)
theorem Txt.g_is_whole (T : Txt K mg) : mg "is_whole" = some (.ref (He.ga K "is_whole")) := T.glo _ (T.says.fact 1 (f := .glo "is_whole") rfl)
theorem Txt.g_need_integer (T : Txt K mg) : mg "need_integer" = some (.ref (He.ga K "need_integer")) := T.glo _ (T.says.fact 2 (f := .glo "need_integer") rfl)
theorem Txt.g_need_whole (T : Txt K mg) : mg "need_whole" = some (.ref (He.ga K "need_whole")) := T.glo _ (T.says.fact 3 (f := .glo "need_whole") rfl)
theorem Txt.g_need_positive (T : Txt K mg) : mg "need_positive" = some (.ref (He.ga K "need_positive")) := T.glo _ (T.says.fact 4 (f := .glo "need_positive") rfl)
theorem Txt.g_need_below (T : Txt K mg) : mg "need_below" = some (.ref (He.ga K "need_below")) := T.glo _ (T.says.fact 5 (f := .glo "need_below") rfl)
theorem Txt.g_common_factor (T : Txt K mg) : mg "common_factor" = some (.ref (He.ga K "common_factor")) := T.glo _ (T.says.fact 6 (f := .glo "common_factor") rfl)
theorem Txt.g_total_of (T : Txt K mg) : mg "total_of" = some (.ref (He.ga K "total_of")) := T.glo _ (T.says.fact 7 (f := .glo "total_of") rfl)
theorem Txt.g_count_in (T : Txt K mg) : mg "count_in" = some (.ref (He.ga K "count_in")) := T.glo _ (T.says.fact 8 (f := .glo "count_in") rfl)
theorem Txt.g_first_in (T : Txt K mg) : mg "first_in" = some (.ref (He.ga K "first_in")) := T.glo _ (T.says.fact 9 (f := .glo "first_in") rfl)
theorem Txt.g_first_from (T : Txt K mg) : mg "first_from" = some (.ref (He.ga K "first_from")) := T.glo _ (T.says.fact 10 (f := .glo "first_from") rfl)
theorem Txt.g_L_begin (T : Txt K mg) : mg "_law_begin" = some (.ref (He.ga K "_law_begin")) := T.glo _ (T.says.fact 11 (f := .glo "_law_begin") rfl)
theorem Txt.g_L_draw (T : Txt K mg) : mg "_law_draw" = some (.ref (He.ga K "_law_draw")) := T.glo _ (T.says.fact 12 (f := .glo "_law_draw") rfl)
theorem Txt.g_L_pick (T : Txt K mg) : mg "_law_pick" = some (.ref (He.ga K "_law_pick")) := T.glo _ (T.says.fact 13 (f := .glo "_law_pick") rfl)
theorem Txt.g_L_whole_is (T : Txt K mg) : mg "_law_whole_is" = some (.ref (He.ga K "_law_whole_is")) := T.glo _ (T.says.fact 14 (f := .glo "_law_whole_is") rfl)
theorem Txt.g_L_truth (T : Txt K mg) : mg "_law_truth" = some (.ref (He.ga K "_law_truth")) := T.glo _ (T.says.fact 15 (f := .glo "_law_truth") rfl)
theorem Txt.g_L_ten (T : Txt K mg) : mg "_law_ten" = some (.ref (He.ga K "_law_ten")) := T.glo _ (T.says.fact 16 (f := .glo "_law_ten") rfl)
theorem Txt.g_L_long (T : Txt K mg) : mg "_law_long" = some (.ref (He.ga K "_law_long")) := T.glo _ (T.says.fact 17 (f := .glo "_law_long") rfl)
theorem Txt.g_L_size (T : Txt K mg) : mg "_law_size" = some (.ref (He.ga K "_law_size")) := T.glo _ (T.says.fact 18 (f := .glo "_law_size") rfl)
theorem Txt.g_L_signed (T : Txt K mg) : mg "_law_signed" = some (.ref (He.ga K "_law_signed")) := T.glo _ (T.says.fact 19 (f := .glo "_law_signed") rfl)
theorem Txt.g_L_common (T : Txt K mg) : mg "_law_common" = some (.ref (He.ga K "_law_common")) := T.glo _ (T.says.fact 20 (f := .glo "_law_common") rfl)
theorem Txt.g_L_refused (T : Txt K mg) : mg "_law_refused" = some (.ref (He.ga K "_law_refused")) := T.glo _ (T.says.fact 21 (f := .glo "_law_refused") rfl)
theorem Txt.g_L_drawn (T : Txt K mg) : mg "_law_drawn" = some (.ref (He.ga K "_law_drawn")) := T.glo _ (T.says.fact 22 (f := .glo "_law_drawn") rfl)
theorem Txt.g_L_house (T : Txt K mg) : mg "_law_house" = some (.ref (He.ga K "_law_house")) := T.glo _ (T.says.fact 23 (f := .glo "_law_house") rfl)
theorem Txt.g_L_gaps_right (T : Txt K mg) : mg "_law_gaps_right" = some (.ref (He.ga K "_law_gaps_right")) := T.glo _ (T.says.fact 24 (f := .glo "_law_gaps_right") rfl)
theorem Txt.g_L_small_right (T : Txt K mg) : mg "_law_small_right" = some (.ref (He.ga K "_law_small_right")) := T.glo _ (T.says.fact 25 (f := .glo "_law_small_right") rfl)
theorem Txt.g_L_window_right (T : Txt K mg) : mg "_law_window_right" = some (.ref (He.ga K "_law_window_right")) := T.glo _ (T.says.fact 26 (f := .glo "_law_window_right") rfl)
theorem Txt.g_L_others_right (T : Txt K mg) : mg "_law_others_right" = some (.ref (He.ga K "_law_others_right")) := T.glo _ (T.says.fact 27 (f := .glo "_law_others_right") rfl)
theorem Txt.g_law (T : Txt K mg) : mg "law" = some (.ref (He.ga K "law")) := T.glo _ (T.says.fact 28 (f := .glo "law") rfl)
theorem Txt.g_SumError (T : Txt K mg) : mg "SumError" = some (.ref (He.ga K "SumError")) := T.glo _ (T.says.fact 29 (f := .glo "SumError") rfl)
theorem Txt.g_BadValue (T : Txt K mg) : mg "BadValue" = some (.ref (He.ga K "BadValue")) := T.glo _ (T.says.fact 30 (f := .glo "BadValue") rfl)
theorem Txt.g_NotTold (T : Txt K mg) : mg "NotTold" = some (.ref (He.ga K "NotTold")) := T.glo _ (T.says.fact 31 (f := .glo "NotTold") rfl)
theorem Txt.g_Window (T : Txt K mg) : mg "Window" = some (.ref (He.ga K "Window")) := T.glo _ (T.says.fact 32 (f := .glo "Window") rfl)
theorem Txt.g_Course (T : Txt K mg) : mg "Course" = some (.ref (He.ga K "Course")) := T.glo _ (T.says.fact 33 (f := .glo "Course") rfl)
theorem Txt.f_isinstance (T : Txt K mg) : mg "isinstance" = none := T.free _ (T.says.fact 34 (f := .free "isinstance") rfl)
theorem Txt.f_int (T : Txt K mg) : mg "int" = none := T.free _ (T.says.fact 35 (f := .free "int") rfl)
theorem Txt.f_bool (T : Txt K mg) : mg "bool" = none := T.free _ (T.says.fact 36 (f := .free "bool") rfl)
theorem Txt.f_abs (T : Txt K mg) : mg "abs" = none := T.free _ (T.says.fact 37 (f := .free "abs") rfl)
theorem Txt.f_min (T : Txt K mg) : mg "min" = none := T.free _ (T.says.fact 38 (f := .free "min") rfl)
theorem Txt.f_max (T : Txt K mg) : mg "max" = none := T.free _ (T.says.fact 39 (f := .free "max") rfl)
theorem Txt.f_len (T : Txt K mg) : mg "len" = none := T.free _ (T.says.fact 40 (f := .free "len") rfl)
theorem Txt.f_list (T : Txt K mg) : mg "list" = none := T.free _ (T.says.fact 41 (f := .free "list") rfl)
theorem Txt.f_range (T : Txt K mg) : mg "range" = none := T.free _ (T.says.fact 42 (f := .free "range") rfl)
theorem Txt.f_sorted (T : Txt K mg) : mg "sorted" = none := T.free _ (T.says.fact 43 (f := .free "sorted") rfl)
theorem Txt.f_tuple (T : Txt K mg) : mg "tuple" = none := T.free _ (T.says.fact 44 (f := .free "tuple") rfl)
theorem Txt.f_sum (T : Txt K mg) : mg "sum" = none := T.free _ (T.says.fact 45 (f := .free "sum") rfl)
theorem Txt.f_all (T : Txt K mg) : mg "all" = none := T.free _ (T.says.fact 46 (f := .free "all") rfl)
theorem Txt.f_any (T : Txt K mg) : mg "any" = none := T.free _ (T.says.fact 47 (f := .free "any") rfl)
theorem Txt.f_repr (T : Txt K mg) : mg "repr" = none := T.free _ (T.says.fact 48 (f := .free "repr") rfl)
theorem Txt.f_super (T : Txt K mg) : mg "super" = none := T.free _ (T.says.fact 49 (f := .free "super") rfl)
theorem Txt.c_Window (T : Txt K mg) : Cls K (He.ga K "Window") := He.cls_ok (T.says.fact 50 (f := .cls "Window") rfl)
theorem Txt.k_Window (T : Txt K mg) : Mk K (He.ga K "Window") (He.ma K (He.ga K "Window") "__init__") := He.mkr_ok (T.says.fact 51 (f := .mkr "Window") rfl)
theorem Txt.n_Window_period (T : Txt K mg) : NoAttr K (He.ga K "Window") "period" := He.noat_ok (T.says.fact 52 (f := .noat "Window" "period") rfl)
theorem Txt.n_Window_first (T : Txt K mg) : NoAttr K (He.ga K "Window") "first" := He.noat_ok (T.says.fact 53 (f := .noat "Window" "first") rfl)
theorem Txt.n_Window_length (T : Txt K mg) : NoAttr K (He.ga K "Window") "length" := He.noat_ok (T.says.fact 54 (f := .noat "Window" "length") rfl)
theorem Txt.m_W_eq (T : Txt K mg) : Meth K (He.ga K "Window") "__eq__" (He.ma K (He.ga K "Window") "__eq__") := He.meth_ok (T.says.fact 55 (f := .meth "Window" "__eq__") rfl)
theorem Txt.m_W_contains (T : Txt K mg) : Meth K (He.ga K "Window") "__contains__" (He.ma K (He.ga K "Window") "__contains__") := He.meth_ok (T.says.fact 56 (f := .meth "Window" "__contains__") rfl)
theorem Txt.c_Course (T : Txt K mg) : Cls K (He.ga K "Course") := He.cls_ok (T.says.fact 57 (f := .cls "Course") rfl)
theorem Txt.k_Course (T : Txt K mg) : Mk K (He.ga K "Course") (He.ma K (He.ga K "Course") "__init__") := He.mkr_ok (T.says.fact 58 (f := .mkr "Course") rfl)
theorem Txt.n_Course_houses (T : Txt K mg) : NoAttr K (He.ga K "Course") "houses" := He.noat_ok (T.says.fact 59 (f := .noat "Course" "houses") rfl)
theorem Txt.n_Course_run (T : Txt K mg) : NoAttr K (He.ga K "Course") "run" := He.noat_ok (T.says.fact 60 (f := .noat "Course" "run") rfl)
theorem Txt.n_Course_start (T : Txt K mg) : NoAttr K (He.ga K "Course") "start" := He.noat_ok (T.says.fact 61 (f := .noat "Course" "start") rfl)
theorem Txt.n_Course_rise (T : Txt K mg) : NoAttr K (He.ga K "Course") "rise" := He.noat_ok (T.says.fact 62 (f := .noat "Course" "rise") rfl)
theorem Txt.m_C_marks (T : Txt K mg) : Meth K (He.ga K "Course") "marks" (He.ma K (He.ga K "Course") "marks") := He.meth_ok (T.says.fact 63 (f := .meth "Course" "marks") rfl)
theorem Txt.m_C_spacing (T : Txt K mg) : Meth K (He.ga K "Course") "spacing" (He.ma K (He.ga K "Course") "spacing") := He.meth_ok (T.says.fact 64 (f := .meth "Course" "spacing") rfl)
theorem Txt.m_C_turn (T : Txt K mg) : Meth K (He.ga K "Course") "turn" (He.ma K (He.ga K "Course") "turn") := He.meth_ok (T.says.fact 65 (f := .meth "Course" "turn") rfl)
theorem Txt.m_C_visits (T : Txt K mg) : Meth K (He.ga K "Course") "visits" (He.ma K (He.ga K "Course") "visits") := He.meth_ok (T.says.fact 66 (f := .meth "Course" "visits") rfl)
theorem Txt.m_C_counted (T : Txt K mg) : Meth K (He.ga K "Course") "counted" (He.ma K (He.ga K "Course") "counted") := He.meth_ok (T.says.fact 67 (f := .meth "Course" "counted") rfl)
theorem Txt.m_C_count (T : Txt K mg) : Meth K (He.ga K "Course") "count" (He.ma K (He.ga K "Course") "count") := He.meth_ok (T.says.fact 68 (f := .meth "Course" "count") rfl)
theorem Txt.m_C_next_visit (T : Txt K mg) : Meth K (He.ga K "Course") "next_visit" (He.ma K (He.ga K "Course") "next_visit") := He.meth_ok (T.says.fact 69 (f := .meth "Course" "next_visit") rfl)
theorem Txt.m_C_gaps (T : Txt K mg) : Meth K (He.ga K "Course") "gaps" (He.ma K (He.ga K "Course") "gaps") := He.meth_ok (T.says.fact 70 (f := .meth "Course" "gaps") rfl)
theorem Txt.m_C_is_resting (T : Txt K mg) : Meth K (He.ga K "Course") "is_resting" (He.ma K (He.ga K "Course") "is_resting") := He.meth_ok (T.says.fact 71 (f := .meth "Course" "is_resting") rfl)
theorem Txt.m_C_is_slow (T : Txt K mg) : Meth K (He.ga K "Course") "is_slow" (He.ma K (He.ga K "Course") "is_slow") := He.meth_ok (T.says.fact 72 (f := .meth "Course" "is_slow") rfl)
theorem Txt.m_C_begins (T : Txt K mg) : Meth K (He.ga K "Course") "begins" (He.ma K (He.ga K "Course") "begins") := He.meth_ok (T.says.fact 73 (f := .meth "Course" "begins") rfl)
theorem Txt.m_C_window (T : Txt K mg) : Meth K (He.ga K "Course") "window" (He.ma K (He.ga K "Course") "window") := He.meth_ok (T.says.fact 74 (f := .meth "Course" "window") rfl)
theorem Txt.D_is_integer (T : Txt K mg) : ∃ fd, FunD K "is_integer" "is_integer" (C8.fnArgs s_is_integer) (C8.fnBody s_is_integer) (C8.fnScope s_is_integer) [] [] (He.fAd K ("is_integer", none)) fd := T.says.def_ 0 (d := d_is_integer) rfl
theorem Txt.D_is_whole (T : Txt K mg) : ∃ fd, FunD K "is_whole" "is_whole" (C8.fnArgs s_is_whole) (C8.fnBody s_is_whole) (C8.fnScope s_is_whole) [] [] (He.fAd K ("is_whole", none)) fd := T.says.def_ 1 (d := d_is_whole) rfl
theorem Txt.D_need_integer (T : Txt K mg) : ∃ fd, FunD K "need_integer" "need_integer" (C8.fnArgs s_need_integer) (C8.fnBody s_need_integer) (C8.fnScope s_need_integer) [] [] (He.fAd K ("need_integer", none)) fd := T.says.def_ 2 (d := d_need_integer) rfl
theorem Txt.D_need_whole (T : Txt K mg) : ∃ fd, FunD K "need_whole" "need_whole" (C8.fnArgs s_need_whole) (C8.fnBody s_need_whole) (C8.fnScope s_need_whole) [] [] (He.fAd K ("need_whole", none)) fd := T.says.def_ 3 (d := d_need_whole) rfl
theorem Txt.D_need_positive (T : Txt K mg) : ∃ fd, FunD K "need_positive" "need_positive" (C8.fnArgs s_need_positive) (C8.fnBody s_need_positive) (C8.fnScope s_need_positive) [] [] (He.fAd K ("need_positive", none)) fd := T.says.def_ 4 (d := d_need_positive) rfl
theorem Txt.D_need_below (T : Txt K mg) : ∃ fd, FunD K "need_below" "need_below" (C8.fnArgs s_need_below) (C8.fnBody s_need_below) (C8.fnScope s_need_below) [] [] (He.fAd K ("need_below", none)) fd := T.says.def_ 5 (d := d_need_below) rfl
theorem Txt.D_common_factor (T : Txt K mg) : ∃ fd, FunD K "common_factor" "common_factor" (C8.fnArgs s_common_factor) (C8.fnBody s_common_factor) (C8.fnScope s_common_factor) [] [] (He.fAd K ("common_factor", none)) fd := T.says.def_ 6 (d := d_common_factor) rfl
theorem Txt.D_total_of (T : Txt K mg) : ∃ fd, FunD K "total_of" "total_of" (C8.fnArgs s_total_of) (C8.fnBody s_total_of) (C8.fnScope s_total_of) [] [] (He.fAd K ("total_of", none)) fd := T.says.def_ 7 (d := d_total_of) rfl
theorem Txt.D_count_in (T : Txt K mg) : ∃ fd, FunD K "count_in" "count_in" (C8.fnArgs s_count_in) (C8.fnBody s_count_in) (C8.fnScope s_count_in) [] [] (He.fAd K ("count_in", none)) fd := T.says.def_ 8 (d := d_count_in) rfl
theorem Txt.D_first_in (T : Txt K mg) : ∃ fd, FunD K "first_in" "first_in" (C8.fnArgs s_first_in) (C8.fnBody s_first_in) (C8.fnScope s_first_in) [] [] (He.fAd K ("first_in", none)) fd := T.says.def_ 9 (d := d_first_in) rfl
theorem Txt.D_first_from (T : Txt K mg) : ∃ fd, FunD K "first_from" "first_from" (C8.fnArgs s_first_from) (C8.fnBody s_first_from) (C8.fnScope s_first_from) [] [] (He.fAd K ("first_from", none)) fd := T.says.def_ 10 (d := d_first_from) rfl
theorem Txt.D_L_begin (T : Txt K mg) : ∃ fd, FunD K "_law_begin" "_law_begin" (C8.fnArgs s_L_begin) (C8.fnBody s_L_begin) (C8.fnScope s_L_begin) [] [] (He.fAd K ("_law_begin", none)) fd := T.says.def_ 11 (d := d_L_begin) rfl
theorem Txt.D_L_draw (T : Txt K mg) : ∃ fd, FunD K "_law_draw" "_law_draw" (C8.fnArgs s_L_draw) (C8.fnBody s_L_draw) (C8.fnScope s_L_draw) [] [] (He.fAd K ("_law_draw", none)) fd := T.says.def_ 12 (d := d_L_draw) rfl
theorem Txt.D_L_pick (T : Txt K mg) : ∃ fd, FunD K "_law_pick" "_law_pick" (C8.fnArgs s_L_pick) (C8.fnBody s_L_pick) (C8.fnScope s_L_pick) [] [] (He.fAd K ("_law_pick", none)) fd := T.says.def_ 13 (d := d_L_pick) rfl
theorem Txt.D_L_whole_is (T : Txt K mg) : ∃ fd, FunD K "_law_whole_is" "_law_whole_is" (C8.fnArgs s_L_whole_is) (C8.fnBody s_L_whole_is) (C8.fnScope s_L_whole_is) [] [] (He.fAd K ("_law_whole_is", none)) fd := T.says.def_ 14 (d := d_L_whole_is) rfl
theorem Txt.D_L_truth (T : Txt K mg) : ∃ fd, FunD K "_law_truth" "_law_truth" (C8.fnArgs s_L_truth) (C8.fnBody s_L_truth) (C8.fnScope s_L_truth) [] [] (He.fAd K ("_law_truth", none)) fd := T.says.def_ 15 (d := d_L_truth) rfl
theorem Txt.D_L_ten (T : Txt K mg) : ∃ fd, FunD K "_law_ten" "_law_ten" (C8.fnArgs s_L_ten) (C8.fnBody s_L_ten) (C8.fnScope s_L_ten) [] [] (He.fAd K ("_law_ten", none)) fd := T.says.def_ 16 (d := d_L_ten) rfl
theorem Txt.D_L_long (T : Txt K mg) : ∃ fd, FunD K "_law_long" "_law_long" (C8.fnArgs s_L_long) (C8.fnBody s_L_long) (C8.fnScope s_L_long) [] [] (He.fAd K ("_law_long", none)) fd := T.says.def_ 17 (d := d_L_long) rfl
theorem Txt.D_L_size (T : Txt K mg) : ∃ fd, FunD K "_law_size" "_law_size" (C8.fnArgs s_L_size) (C8.fnBody s_L_size) (C8.fnScope s_L_size) [] [] (He.fAd K ("_law_size", none)) fd := T.says.def_ 18 (d := d_L_size) rfl
theorem Txt.D_L_signed (T : Txt K mg) : ∃ fd, FunD K "_law_signed" "_law_signed" (C8.fnArgs s_L_signed) (C8.fnBody s_L_signed) (C8.fnScope s_L_signed) [] [] (He.fAd K ("_law_signed", none)) fd := T.says.def_ 19 (d := d_L_signed) rfl
theorem Txt.D_L_common (T : Txt K mg) : ∃ fd, FunD K "_law_common" "_law_common" (C8.fnArgs s_L_common) (C8.fnBody s_L_common) (C8.fnScope s_L_common) [] [] (He.fAd K ("_law_common", none)) fd := T.says.def_ 20 (d := d_L_common) rfl
theorem Txt.D_L_refused (T : Txt K mg) : ∃ fd, FunD K "_law_refused" "_law_refused" (C8.fnArgs s_L_refused) (C8.fnBody s_L_refused) (C8.fnScope s_L_refused) [] [] (He.fAd K ("_law_refused", none)) fd := T.says.def_ 21 (d := d_L_refused) rfl
theorem Txt.D_L_drawn (T : Txt K mg) : ∃ fd, FunD K "_law_drawn" "_law_drawn" (C8.fnArgs s_L_drawn) (C8.fnBody s_L_drawn) (C8.fnScope s_L_drawn) [] [] (He.fAd K ("_law_drawn", none)) fd := T.says.def_ 22 (d := d_L_drawn) rfl
theorem Txt.D_L_house (T : Txt K mg) : ∃ fd, FunD K "_law_house" "_law_house" (C8.fnArgs s_L_house) (C8.fnBody s_L_house) (C8.fnScope s_L_house) [] [] (He.fAd K ("_law_house", none)) fd := T.says.def_ 23 (d := d_L_house) rfl
theorem Txt.D_L_gaps_right (T : Txt K mg) : ∃ fd, FunD K "_law_gaps_right" "_law_gaps_right" (C8.fnArgs s_L_gaps_right) (C8.fnBody s_L_gaps_right) (C8.fnScope s_L_gaps_right) [] [] (He.fAd K ("_law_gaps_right", none)) fd := T.says.def_ 24 (d := d_L_gaps_right) rfl
theorem Txt.D_L_small_right (T : Txt K mg) : ∃ fd, FunD K "_law_small_right" "_law_small_right" (C8.fnArgs s_L_small_right) (C8.fnBody s_L_small_right) (C8.fnScope s_L_small_right) [] [] (He.fAd K ("_law_small_right", none)) fd := T.says.def_ 25 (d := d_L_small_right) rfl
theorem Txt.D_L_window_right (T : Txt K mg) : ∃ fd, FunD K "_law_window_right" "_law_window_right" (C8.fnArgs s_L_window_right) (C8.fnBody s_L_window_right) (C8.fnScope s_L_window_right) [] [] (He.fAd K ("_law_window_right", none)) fd := T.says.def_ 26 (d := d_L_window_right) rfl
theorem Txt.D_L_others_right (T : Txt K mg) : ∃ fd, FunD K "_law_others_right" "_law_others_right" (C8.fnArgs s_L_others_right) (C8.fnBody s_L_others_right) (C8.fnScope s_L_others_right) [] [] (He.fAd K ("_law_others_right", none)) fd := T.says.def_ 27 (d := d_L_others_right) rfl
theorem Txt.D_law (T : Txt K mg) : ∃ fd, FunD K "law" "law" (C8.fnArgs s_law) (C8.fnBody s_law) (C8.fnScope s_law) [] [] (He.fAd K ("law", none)) fd := T.says.def_ 28 (d := d_law) rfl
theorem Txt.D_W_init (T : Txt K mg) : ∃ fd, FunD K "__init__" "Window.__init__" (C8.fnArgs s_W_init) (C8.fnBody s_W_init) (C8.fnScope s_W_init) [] [] (He.fAd K ("Window", some "__init__")) fd := T.says.def_ 29 (d := d_W_init) rfl
theorem Txt.D_W_eq (T : Txt K mg) : ∃ fd, FunD K "__eq__" "Window.__eq__" (C8.fnArgs s_W_eq) (C8.fnBody s_W_eq) (C8.fnScope s_W_eq) [] [] (He.fAd K ("Window", some "__eq__")) fd := T.says.def_ 30 (d := d_W_eq) rfl
theorem Txt.D_W_contains (T : Txt K mg) : ∃ fd, FunD K "__contains__" "Window.__contains__" (C8.fnArgs s_W_contains) (C8.fnBody s_W_contains) (C8.fnScope s_W_contains) [] [] (He.fAd K ("Window", some "__contains__")) fd := T.says.def_ 31 (d := d_W_contains) rfl
theorem Txt.D_C_init (T : Txt K mg) : ∃ fd, FunD K "__init__" "Course.__init__" (C8.fnArgs s_C_init) (C8.fnBody s_C_init) (C8.fnScope s_C_init) [] [] (He.fAd K ("Course", some "__init__")) fd := T.says.def_ 32 (d := d_C_init) rfl
theorem Txt.D_C_marks (T : Txt K mg) : ∃ fd, FunD K "marks" "Course.marks" (C8.fnArgs s_C_marks) (C8.fnBody s_C_marks) (C8.fnScope s_C_marks) [] [] (He.fAd K ("Course", some "marks")) fd := T.says.def_ 33 (d := d_C_marks) rfl
theorem Txt.D_C_spacing (T : Txt K mg) : ∃ fd, FunD K "spacing" "Course.spacing" (C8.fnArgs s_C_spacing) (C8.fnBody s_C_spacing) (C8.fnScope s_C_spacing) [] [] (He.fAd K ("Course", some "spacing")) fd := T.says.def_ 34 (d := d_C_spacing) rfl
theorem Txt.D_C_turn (T : Txt K mg) : ∃ fd, FunD K "turn" "Course.turn" (C8.fnArgs s_C_turn) (C8.fnBody s_C_turn) (C8.fnScope s_C_turn) [] [] (He.fAd K ("Course", some "turn")) fd := T.says.def_ 35 (d := d_C_turn) rfl
theorem Txt.D_C_visits (T : Txt K mg) : ∃ fd, FunD K "visits" "Course.visits" (C8.fnArgs s_C_visits) (C8.fnBody s_C_visits) (C8.fnScope s_C_visits) [] [] (He.fAd K ("Course", some "visits")) fd := T.says.def_ 36 (d := d_C_visits) rfl
theorem Txt.D_C_counted (T : Txt K mg) : ∃ fd, FunD K "counted" "Course.counted" (C8.fnArgs s_C_counted) (C8.fnBody s_C_counted) (C8.fnScope s_C_counted) [] [] (He.fAd K ("Course", some "counted")) fd := T.says.def_ 37 (d := d_C_counted) rfl
theorem Txt.D_C_count (T : Txt K mg) : ∃ fd, FunD K "count" "Course.count" (C8.fnArgs s_C_count) (C8.fnBody s_C_count) (C8.fnScope s_C_count) [] [] (He.fAd K ("Course", some "count")) fd := T.says.def_ 38 (d := d_C_count) rfl
theorem Txt.D_C_next_visit (T : Txt K mg) : ∃ fd, FunD K "next_visit" "Course.next_visit" (C8.fnArgs s_C_next_visit) (C8.fnBody s_C_next_visit) (C8.fnScope s_C_next_visit) [] [] (He.fAd K ("Course", some "next_visit")) fd := T.says.def_ 39 (d := d_C_next_visit) rfl
theorem Txt.D_C_gaps (T : Txt K mg) : ∃ fd, FunD K "gaps" "Course.gaps" (C8.fnArgs s_C_gaps) (C8.fnBody s_C_gaps) (C8.fnScope s_C_gaps) [] [] (He.fAd K ("Course", some "gaps")) fd := T.says.def_ 40 (d := d_C_gaps) rfl
theorem Txt.D_C_is_resting (T : Txt K mg) : ∃ fd, FunD K "is_resting" "Course.is_resting" (C8.fnArgs s_C_is_resting) (C8.fnBody s_C_is_resting) (C8.fnScope s_C_is_resting) [] [] (He.fAd K ("Course", some "is_resting")) fd := T.says.def_ 41 (d := d_C_is_resting) rfl
theorem Txt.D_C_is_slow (T : Txt K mg) : ∃ fd, FunD K "is_slow" "Course.is_slow" (C8.fnArgs s_C_is_slow) (C8.fnBody s_C_is_slow) (C8.fnScope s_C_is_slow) [] [] (He.fAd K ("Course", some "is_slow")) fd := T.says.def_ 42 (d := d_C_is_slow) rfl
theorem Txt.D_C_begins (T : Txt K mg) : ∃ fd, FunD K "begins" "Course.begins" (C8.fnArgs s_C_begins) (C8.fnBody s_C_begins) (C8.fnScope s_C_begins) [] [] (He.fAd K ("Course", some "begins")) fd := T.says.def_ 43 (d := d_C_begins) rfl
theorem Txt.D_C_window (T : Txt K mg) : ∃ fd, FunD K "window" "Course.window" (C8.fnArgs s_C_window) (C8.fnBody s_C_window) (C8.fnScope s_C_window) [] [] (He.fAd K ("Course", some "window")) fd := T.says.def_ 44 (d := d_C_window) rfl
end

/-! ### the built-in names -/
theorem b_int : bootBuiltins "int" = some (.type "int") := by decide +kernel
theorem b_bool : bootBuiltins "bool" = some (.type "bool") := by decide +kernel
theorem b_list : bootBuiltins "list" = some (.type "list") := by decide +kernel
theorem b_tuple : bootBuiltins "tuple" = some (.type "tuple") := by decide +kernel
theorem b_range : bootBuiltins "range" = some (.type "range") := by decide +kernel
theorem b_isinstance : bootBuiltins "isinstance" = some (.builtin "isinstance") := by decide +kernel
theorem b_abs : bootBuiltins "abs" = some (.builtin "abs") := by decide +kernel
theorem b_min : bootBuiltins "min" = some (.builtin "min") := by decide +kernel
theorem b_max : bootBuiltins "max" = some (.builtin "max") := by decide +kernel
theorem b_len : bootBuiltins "len" = some (.builtin "len") := by decide +kernel
theorem b_sorted : bootBuiltins "sorted" = some (.builtin "sorted") := by decide +kernel
theorem b_sum : bootBuiltins "sum" = some (.builtin "sum") := by decide +kernel
theorem b_all : bootBuiltins "all" = some (.builtin "all") := by decide +kernel
theorem b_any : bootBuiltins "any" = some (.builtin "any") := by decide +kernel
theorem b_repr : bootBuiltins "repr" = some (.builtin "repr") := by decide +kernel
/-! ### a def by its body -/
section
variable {P : Program} {w : World} {K : PySem.W.Frag} {mg : Str → Option Value} {base : Heap} {x qual m : Str} {st : Stmt} {N ps : List Str} {k : Nat} {sp : Sp} {f C : Addr}
theorem fun_c8 {fd : FuncData} (F : FunD K x qual (C8.fnArgs st) (C8.fnBody st) (C8.fnScope st) [] [] f fd) : C8.Fun K x qual st f fd := by
  obtain ⟨oc, od, dV, kV, doc, pm, an, cdv, ct, osl, e, lk, hcd, _, _⟩ := F.ex
  exact ⟨oc, od, dV, kV, doc, pm, an, cdv, ct, osl, e, lk, hcd⟩
theorem cal_mk (hD : ∃ fd, FunD K x x (C8.fnArgs st) (C8.fnBody st) (C8.fnScope st) [] [] f fd) (hm : mg x = some (.ref f))
    (hb : ∀ (kV doc pm : Value) (an : Option Addr) (cdv ct : Value) (us : List Value), us.length = ps.length → bindArgs (PySem.W.fnOf x x (C8.fnArgs st) (C8.fnBody st) (C8.fnScope st) .none kV doc pm an cdv ct) ⟨us, []⟩ = pure (ps.zip us))
    (S : FnScope N ps (C8.fnScope st)) (len : ∀ vs H Q E, sp vs H Q E → vs.length = ps.length)
    (hbody : ∀ (cdv : Value) (A : Around) (outer : List Env) (s : Shared) (H : Hp) (vs : List V) (Q : VK) (E : XK), Room k (A.deeper (envOfC x (C8.fnScope st) s.heap.objs.size f cdv)) → sp vs H Q E →
      ∃ t, PSs (cxOf C8.CX0 P w K mg base N x (C8.fnScope st) f cdv A outer s H E).nox (C8.fnBody st) t ∧ t { nx := fun _ H' => Q .non H', rt := Q } (start N vs) H) : C8.Cal P w K mg base (k + 1) x sp [] := by
  obtain ⟨fd, F⟩ := hD
  exact ⟨f, fd, ps, [], C8.fn0 (fun_c8 F) S len hbody, hm, F.kp, F.bindsN hb, .nil⟩
theorem met_mk (c : Cls K C) (me : Meth K C m f) (hD : ∃ fd, FunD K m qual (C8.fnArgs st) (C8.fnBody st) (C8.fnScope st) [] [] f fd)
    (hb : ∀ (kV doc pm : Value) (an : Option Addr) (cdv ct : Value) (us : List Value), us.length = ps.length → bindArgs (PySem.W.fnOf m qual (C8.fnArgs st) (C8.fnBody st) (C8.fnScope st) .none kV doc pm an cdv ct) ⟨us, []⟩ = pure (ps.zip us))
    (S : FnScope N ps (C8.fnScope st)) (len : ∀ vs H Q E, sp vs H Q E → vs.length = ps.length)
    (hbody : ∀ (cdv : Value) (A : Around) (outer : List Env) (s : Shared) (H : Hp) (vs : List V) (Q : VK) (E : XK), Room k (A.deeper (envOfC qual (C8.fnScope st) s.heap.objs.size f cdv)) → sp vs H Q E →
      ∃ t, PSs (cxOf C8.CX0 P w K mg base N qual (C8.fnScope st) f cdv A outer s H E).nox (C8.fnBody st) t ∧ t { nx := fun _ H' => Q .non H', rt := Q } (start N vs) H) : C8.Met P w K mg base (k + 1) C m sp [] := by
  obtain ⟨fd, F⟩ := hD
  exact ⟨f, fd, ps, [], c, me, C8.fn0 (fun_c8 F) S len hbody, F.bindsN hb, .nil⟩
theorem mak_mk (M : Mk K C f) (hD : ∃ fd, FunD K "__init__" qual (C8.fnArgs st) (C8.fnBody st) (C8.fnScope st) [] [] f fd) (hm : mg x = some (.ref C))
    (hb : ∀ (kV doc pm : Value) (an : Option Addr) (cdv ct : Value) (us : List Value), us.length = ps.length → bindArgs (PySem.W.fnOf "__init__" qual (C8.fnArgs st) (C8.fnBody st) (C8.fnScope st) .none kV doc pm an cdv ct) ⟨us, []⟩ = pure (ps.zip us))
    (S : FnScope N ps (C8.fnScope st)) (len : ∀ vs H Q E, sp vs H Q E → vs.length = ps.length)
    (hbody : ∀ (cdv : Value) (A : Around) (outer : List Env) (s : Shared) (H : Hp) (vs : List V) (Q : VK) (E : XK), Room k (A.deeper (envOfC qual (C8.fnScope st) s.heap.objs.size f cdv)) → sp vs H Q E →
      ∃ t, PSs (cxOf C8.CX0 P w K mg base N qual (C8.fnScope st) f cdv A outer s H E).nox (C8.fnBody st) t ∧ t { nx := fun _ H' => Q .non H', rt := Q } (start N vs) H) : C8.Mak P w K mg base (k + 1) x C sp [] := by
  obtain ⟨fd, F⟩ := hD
  exact ⟨f, fd, ps, [], M, C8.fn0 (fun_c8 F) S len hbody, hm, F.bindsN hb, .nil⟩
end

/-! ### bounds by bits -/
def Bd (n : Nat) (x : Int) : Prop := x.natAbs < 2 ^ n
theorem Bd.mono {a b : Nat} {x : Int} (h : Bd a x) (l : a ≤ b) : Bd b x := Nat.lt_of_lt_of_le h (Nat.pow_le_pow_right (by decide) l)
theorem Bd.add {a b : Nat} {x y : Int} (hx : Bd a x) (hy : Bd b y) : Bd (max a b + 1) (x + y) := by
  have h1 := hx.mono (Nat.le_max_left a b)
  have h2 := hy.mono (Nat.le_max_right a b)
  unfold Bd at *
  rw [Nat.pow_succ]
  omega
theorem Bd.neg {a : Nat} {x : Int} (hx : Bd a x) : Bd a (-x) := by unfold Bd at *; rw [Int.natAbs_neg]; exact hx
theorem Bd.sub {a b : Nat} {x y : Int} (hx : Bd a x) (hy : Bd b y) : Bd (max a b + 1) (x - y) := by rw [Int.sub_eq_add_neg]; exact hx.add hy.neg
theorem Bd.mul {a b : Nat} {x y : Int} (hx : Bd a x) (hy : Bd b y) : Bd (a + b) (x * y) := wide_lt hx hy
theorem Bd.le {a : Nat} {x y : Int} (h : Bd a y) (h0 : 0 ≤ x) (h1 : x ≤ y) : Bd a x := wide_le h0 h1 h
theorem Bd.div {a : Nat} {x y : Int} (h : Bd a x) (hy : 0 < y) : Bd a (x / y) := by
  unfold Bd at *
  refine Nat.lt_of_le_of_lt ?_ h
  rcases Int.lt_or_le x 0 with q | q
  · have h1 : x / y < 0 := Int.ediv_neg_of_neg_of_pos q hy
    have h2 : x ≤ x / y := by
      rw [Int.le_ediv_iff_mul_le hy]
      have := Int.mul_le_mul_of_nonpos_left (show x ≤ 0 by omega) (show 1 ≤ y by omega)
      omega
    omega
  · have h1 : 0 ≤ x / y := Int.ediv_nonneg q (by omega)
    have h2 : x / y ≤ x := Int.ediv_le_self _ q
    omega
theorem Bd.mod {a : Nat} {x y : Int} (h : Bd a y) (hy : 0 < y) : Bd a (x % y) := h.le (Int.emod_nonneg _ (by omega)) (Int.le_of_lt (Int.emod_lt_of_pos _ hy))
theorem Bd.lit {a : Nat} {x : Int} (h : x.natAbs < 2 ^ a) : Bd a x := h
theorem Bd.mulW {a b : Nat} {x y : Int} (hx : Bd a x) (hy : Bd b y) (h : a + b + 2 ≤ 1000000 := by decide) : CMulW x y := wide_mul (a := a + 1) (b := b + 1) (hx.mono (by omega)) (hy.mono (by omega)) (by omega) (by omega) (by omega)
theorem Bd.divW {b : Nat} {x y : Int} (h0 : 0 < y) (hy : Bd b y) (h : b + 1 ≤ 9000 := by decide) : CDivW x y := wide_div (b := b + 1) h0 (hy.mono (by omega)) (by omega) h

theorem Bd.lit64 {x : Int} (h : x.natAbs < 2 ^ 64) : Bd 64 x := h
theorem Bd.sgn {g : Int} (h : g = 1 ∨ g = -1) : Bd 64 g := by
  rcases h with h | h <;> subst h <;> exact Bd.lit64 (by decide)
/-! ### heaps -/
theorem _root_.L2.Same.new {H : Hp} {p : Addr} {o : HO} (h : H p = none) : Same H (upd H p o) := fun a u e => by
  rw [upd_ne (ne_of_none e h)]
  exact e
theorem _root_.L2.Same.mut {H H' : Hp} {p : Addr} {o : HO} (e : Same H H') (h : H p = none) : Same H (upd H' p o) := fun a u ha => by
  rw [upd_ne (ne_of_none ha h)]
  exact e a u ha
theorem _root_.L2.Same.add {H H' : Hp} {p : Addr} {o : HO} (e : Same H H') (h : H' p = none) : Same H (upd H' p o) := e.trans (Same.new h)
theorem _root_.L2.Same.sqt {K : PySem.W.Frag} {H H' : Hp} {a : Addr} {xs : List V} (e : Same H H') (h : SqT K H a xs) : SqT K H' a xs := by
  rcases h with (h | ⟨o, h⟩) | h
  · exact .inl (.inl (e _ _ h))
  · exact .inl (.inr ⟨o, e _ _ h⟩)
  · exact .inr h
end K21

set_option Elab.async false
set_option linter.all false
set_option maxRecDepth 100000
set_option maxHeartbeats 4000000
/-! The walk: checks and floors. -/
namespace K21
open PySem PySem.Spec PyProof.Rows L2
section
variable {P : Program} {w : World} {K : PySem.W.Frag} {mg : Str → Option Value} {base : Heap}
/-! ### checks -/
def sp_is_integer : Sp := fun vs H Q _ => ∃ n : Int, vs = [.int n] ∧ Q (.bl true) H
theorem sc_is_integer : FnScope ["value"] ["value"] (C8.fnScope s_is_integer) := C8.fnScope_by (by decide +kernel)
theorem cal_is_integer (T : Txt K mg) : C8.Cal P w K mg base 1 "is_integer" sp_is_integer [] := by
  refine cal_mk (T.D_is_integer) (T.g_is_integer) (fun _ _ _ _ _ _ us hl => match us, hl with | [_], _ => rfl) sc_is_integer (fun vs H Q E h => ?_) (fun cdv A outer s H vs Q E hr h => ?_)
  · obtain ⟨n, rfl, _⟩ := h
    rfl
  · obtain ⟨n, rfl, k⟩ := h
    refine ⟨_, (pss_one (ps_ret (pe_and (pe_callB call_isi (by rfl) T.f_isinstance b_isinstance (pa_cons (pv 0) (pa_cons (pe_bltn (v := .ty "int") (u := .type "int") (by rfl) T.f_int b_int rfl) pa_nil))) (pe_one (pe_not (pe_callB call_isi (by rfl) T.f_isinstance b_isinstance (pa_cons (pv 0) (pa_cons (pe_bltn (v := .ty "bool") (u := .type "bool") (by rfl) T.f_bool b_bool rfl) pa_nil)))))))), ?_⟩
    refine ⟨_, rfl, _, _, _, _, true, rfl, .ty "int", .base (.int n), kit_ty (by decide +kernel), true, rfl, iteT ?_⟩
    refine ⟨_, rfl, _, _, _, _, false, rfl, .ty "bool", .base (.int n), kit_ty (by decide +kernel), false, rfl, ?_⟩
    exact k

def sp_is_whole : Sp := fun vs H Q _ => ∃ n : Int, vs = [.int n] ∧ Q (.bl (decide (0 ≤ n))) H
theorem sc_is_whole : FnScope ["value"] ["value"] (C8.fnScope s_is_whole) := C8.fnScope_by (by decide +kernel)
theorem cal_is_whole (T : Txt K mg) : C8.Cal P w K mg base 2 "is_whole" sp_is_whole [] := by
  refine cal_mk (T.D_is_whole) (T.g_is_whole) (fun _ _ _ _ _ _ us hl => match us, hl with | [_], _ => rfl) sc_is_whole (fun vs H Q E h => ?_) (fun cdv A outer s H vs Q E hr h => ?_)
  · obtain ⟨n, rfl, _⟩ := h
    rfl
  · obtain ⟨n, rfl, k⟩ := h
    refine ⟨_, (pss_one (ps_ret (pe_and (C8.pe_c (cal_is_integer T) hr (by decide) rfl (pa_cons (pv 0) pa_nil)) (pe_one (pe_cmpR op_ge (pv 0) pe_int (nomark _)))))), ?_⟩
    refine ⟨_, rfl, n, rfl, true, rfl, iteT ⟨_, rfl, _, _, rfl, rfl, k⟩⟩

def sp_need_integer : Sp := fun vs H Q _ => ∃ n : Int, vs = [.int n] ∧ Q .non H
theorem sc_need_integer : FnScope ["value"] ["value"] (C8.fnScope s_need_integer) := C8.fnScope_by (by decide +kernel)
theorem cal_need_integer (T : Txt K mg) : C8.Cal P w K mg base 3 "need_integer" sp_need_integer [] := by
  refine cal_mk (T.D_need_integer) (T.g_need_integer) (fun _ _ _ _ _ _ us hl => match us, hl with | [_], _ => rfl) sc_need_integer (fun vs H Q E h => ?_) (fun cdv A outer s H vs Q E hr h => ?_)
  · obtain ⟨n, rfl, _⟩ := h
    rfl
  · obtain ⟨n, rfl, k⟩ := h
    refine ⟨_, (pss_one (ps_if (pt_not (pt_val (C8.pe_c (cal_is_integer T) hr (by decide) rfl (pa_cons (pv 0) pa_nil)))) (pss_one ps_never)
      pss_nil)), ?_⟩
    exact ⟨_, rfl, n, rfl, true, rfl, iteF k⟩

def sp_need_whole : Sp := fun vs H Q _ => ∃ n : Int, vs = [.int n] ∧ 0 ≤ n ∧ Q .non H
theorem sc_need_whole : FnScope ["value"] ["value"] (C8.fnScope s_need_whole) := C8.fnScope_by (by decide +kernel)
theorem cal_need_whole (T : Txt K mg) : C8.Cal P w K mg base 3 "need_whole" sp_need_whole [] := by
  refine cal_mk (T.D_need_whole) (T.g_need_whole) (fun _ _ _ _ _ _ us hl => match us, hl with | [_], _ => rfl) sc_need_whole (fun vs H Q E h => ?_) (fun cdv A outer s H vs Q E hr h => ?_)
  · obtain ⟨n, rfl, _⟩ := h
    rfl
  · obtain ⟨n, rfl, h0, k⟩ := h
    refine ⟨_, (pss_one (ps_if (pt_not (pt_val (C8.pe_c (cal_is_whole T) hr (by decide) rfl (pa_cons (pv 0) pa_nil)))) (pss_one ps_never)
      pss_nil)), ?_⟩
    refine ⟨_, rfl, n, rfl, _, rfl, ?_⟩
    rw [decide_eq_true h0]
    exact iteF k

def sp_need_positive : Sp := fun vs H Q _ => ∃ n : Int, vs = [.int n] ∧ 1 ≤ n ∧ Q .non H
theorem sc_need_positive : FnScope ["value"] ["value"] (C8.fnScope s_need_positive) := C8.fnScope_by (by decide +kernel)
theorem cal_need_positive (T : Txt K mg) : C8.Cal P w K mg base 3 "need_positive" sp_need_positive [] := by
  refine cal_mk (T.D_need_positive) (T.g_need_positive) (fun _ _ _ _ _ _ us hl => match us, hl with | [_], _ => rfl) sc_need_positive (fun vs H Q E h => ?_) (fun cdv A outer s H vs Q E hr h => ?_)
  · obtain ⟨n, rfl, _⟩ := h
    rfl
  · obtain ⟨n, rfl, h0, k⟩ := h
    refine ⟨_, (pss_one (ps_if (PW.pt (pw_or (pt_not (pt_val (C8.pe_c (cal_is_whole T) hr (by decide) rfl (pa_cons (pv 0) pa_nil)))) (pw_or1 (pt_cmpR op_eq (pv 0) pe_int (nomark _))))) (pss_one ps_never)
      pss_nil)), ?_⟩
    refine ⟨_, rfl, n, rfl, _, rfl, ?_⟩
    rw [decide_eq_true (show 0 ≤ n by omega)]
    refine iteF ⟨_, rfl, rfl, _, rfl, ?_⟩
    rw [decide_eq_false (show ¬ V.int n = V.int 0 from fun z => by injection z with z; omega)]
    exact iteF k

def sp_need_below : Sp := fun vs H Q _ => ∃ n b : Int, vs = [.int n, .int b] ∧ 0 ≤ n ∧ n < b ∧ Q .non H
theorem sc_need_below : FnScope ["value", "bound"] ["value", "bound"] (C8.fnScope s_need_below) := C8.fnScope_by (by decide +kernel)
theorem cal_need_below (T : Txt K mg) : C8.Cal P w K mg base 3 "need_below" sp_need_below [] := by
  refine cal_mk (T.D_need_below) (T.g_need_below) (fun _ _ _ _ _ _ us hl => match us, hl with | [_, _], _ => rfl) sc_need_below (fun vs H Q E h => ?_) (fun cdv A outer s H vs Q E hr h => ?_)
  · obtain ⟨n, b, rfl, _⟩ := h
    rfl
  · obtain ⟨n, b, rfl, h0, h1, k⟩ := h
    refine ⟨_, (pss_one (ps_if (PW.pt (pw_or (pt_not (pt_val (C8.pe_c (cal_is_whole T) hr (by decide) rfl (pa_cons (pv 0) pa_nil)))) (pw_or1 (pt_cmpR op_ge (pv 0) (pv 1) (nomark _))))) (pss_one ps_never)
      pss_nil)), ?_⟩
    refine ⟨_, rfl, n, rfl, _, rfl, ?_⟩
    rw [decide_eq_true h0]
    refine iteF ⟨_, rfl, _, rfl, _, _, rfl, rfl, _, rfl, ?_⟩
    rw [decide_eq_false (show ¬ b ≤ n by omega)]
    exact iteF k

theorem gcd_turn {a b : Int} (ha : 0 ≤ a) (hb : 0 < b) : Nat.gcd b.natAbs (a % b).natAbs = Nat.gcd a.natAbs b.natAbs := by
  obtain ⟨n, rfl⟩ := Int.eq_ofNat_of_zero_le ha
  obtain ⟨m, rfl⟩ := Int.eq_ofNat_of_zero_le (Int.le_of_lt hb)
  have e : ((n : Int) % (m : Int)).natAbs = n % m := by rw [← Int.natCast_emod]; rfl
  rw [e, Nat.gcd_comm]
  show Nat.gcd (n % m) m = Nat.gcd n m
  rw [← Nat.gcd_rec]
  exact Nat.gcd_comm _ _
def sp_common_factor : Sp := fun vs H Q _ => ∃ a b : Int, vs = [.int a, .int b] ∧ 0 ≤ a ∧ 0 ≤ b ∧ Q (.int (Nat.gcd a.natAbs b.natAbs : Nat)) H
theorem sc_common_factor : FnScope ["one", "other"] ["one", "other"] (C8.fnScope s_common_factor) := C8.fnScope_by (by decide +kernel)
theorem cal_common_factor (T : Txt K mg) : C8.Cal P w K mg base 1 "common_factor" sp_common_factor [] := by
  refine cal_mk (T.D_common_factor) (T.g_common_factor) (fun _ _ _ _ _ _ us hl => match us, hl with | [_, _], _ => rfl) sc_common_factor (fun vs H Q E h => ?_) (fun cdv A outer s H vs Q E hr h => ?_)
  · obtain ⟨a, b, rfl, _⟩ := h
    rfl
  · obtain ⟨a, b, rfl, ha, hb, k⟩ := h
    refine ⟨_, (pss_cons (ps_while PassesOwn.never (pt_cmpR op_gt (pv 1) pe_int (nomark _))
      (pss_one (ps_par (i := 0) (j := 1) (by rfl) sc_common_factor.nd rfl rfl (by decide) rfl rfl (pa_cons (pv 1) (pa_cons (pe_op op_mod (pv 0) (pv 1)) pa_nil)) (by rfl))))
      (pss_one (ps_ret (pv 0)))), ?_⟩
    refine ⟨fun m σ H' => ∃ a' b' : Int, σ = [some (.int a'), some (.int b')] ∧ H' = H ∧ 0 ≤ a' ∧ 0 ≤ b' ∧ m = b'.toNat ∧ Nat.gcd a'.natAbs b'.natAbs = Nat.gcd a.natAbs b.natAbs, ⟨_, a, b, rfl, rfl, ha, hb, rfl, rfl⟩, ?_⟩
    rintro m σ H' ⟨a', b', rfl, rfl, ha', hb', rfl, hg⟩
    refine ⟨_, rfl, _, _, rfl, rfl, _, rfl, ite2 (fun h => ?_) (fun h => ?_)⟩
    · have hb0 : 0 < b' := of_decide_eq_true h
      refine ⟨_, fun _ _ z => z, _, rfl, _, rfl, _, rfl, _, _, rfl, rfl, hb0, _, _, rfl, ?_⟩
      have l0 := Int.emod_nonneg a' (show b' ≠ 0 by omega)
      have l1 := Int.emod_lt_of_pos a' hb0
      exact ⟨_, by omega, b', a' % b', rfl, rfl, hb', l0, rfl, by rw [gcd_turn ha' hb0, hg]⟩
    · have hb0 : b' = 0 := by have : ¬ 0 < b' := fun z => h (decide_eq_true z); omega
      subst hb0
      refine ⟨_, rfl, ?_⟩
      have e : ((Nat.gcd a.natAbs b.natAbs : Nat) : Int) = a' := by
        rw [← hg]
        simp
        omega
      rw [← e]
      exact k
end
end K21

set_option Elab.async false
set_option linter.all false
set_option maxRecDepth 100000
set_option maxHeartbeats 4000000
set_option exponentiation.threshold 2000
/-! The walk: floors. -/
namespace K21
open PySem PySem.Spec PyProof.Rows L2
local macro_rules | `(tactic| walk_at "pos") => `(tactic| first | assumption | ((with_reducible show (0 : Int) < _); first | assumption | omega | decide) | decide)
local macro_rules | `(tactic| walk_at "b") => `(tactic| (repeat' (first | ((with_reducible show Bd _ _); first | assumption | exact Bd.lit64 (by decide) | (refine' Bd.add ?_ ?_) | (refine' Bd.sub ?_ ?_) | (refine' Bd.mul ?_ ?_) | (refine' Bd.neg ?_) | (refine' Bd.div ?_ ?_) | (refine' Bd.mod ?_ ?_)) | ((with_reducible show (_ : Int) < _); first | assumption | omega))))
local macro_rules | `(tactic| walk_at "mul") => `(tactic| exact Bd.mulW (by walk_at "b") (by walk_at "b") (by decide))
local macro_rules | `(tactic| walk_at "div") => `(tactic| exact Bd.divW (by walk_at "pos") (by walk_at "b") (by decide))
section
variable {P : Program} {w : World} {K : PySem.W.Frag} {mg : Str → Option Value} {base : Heap}
def sp_total_of : Sp := fun vs H Q _ => ∃ n r a b : Int, vs = [.int n, .int r, .int a, .int b] ∧ 0 ≤ n ∧ 0 < r ∧ Bd 700 n ∧ Bd 700 r ∧ Bd 700 a ∧ Bd 700 b ∧ ∀ H', Same H H' → Q (.int (fsum n.toNat r a b)) H'
theorem sc_total_of : FnScope ["many", "run", "rise", "start", "total", "sign", "top"] ["many", "run", "rise", "start"] (C8.fnScope s_total_of) := C8.fnScope_by (by decide +kernel)
theorem cal_total_of (T : Txt K mg) : C8.Cal P w K mg base 1 "total_of" sp_total_of [] := by
  refine cal_mk (T.D_total_of) (T.g_total_of) (fun _ _ _ _ _ _ us hl => match us, hl with | [_, _, _, _], _ => rfl) sc_total_of (fun vs H Q E h => ?_) (fun cdv A outer s H vs Q E hr h => ?_)
  · obtain ⟨n, r, a, b, rfl, _⟩ := h
    rfl
  · obtain ⟨n0, r0, a0, b0, rfl, hn0, hr0, bn0, br0, ba0, bb0, k⟩ := h
    refine ⟨_, (pss_cons (ps_asg (pe_tup (pa_cons pe_int (pa_cons pe_int pa_nil))) (pg_tup rfl (pgs_cons (pg_name (i := 4) sc_total_of.nd rfl (Or.inl rfl)) (pgs_cons (pg_name (i := 5) sc_total_of.nd rfl (Or.inl rfl)) pgs_nil))))
      (pss_cons (ps_while PassesOwn.never (pt_cmpR op_gt (pv 0) pe_int (nomark _))
      (pss_cons (ps_set (i := 4) sc_total_of.nd rfl (Or.inl rfl) (pe_op op_add (pv 4) (pe_op op_mulW (pv 5) (pe_op op_add (pe_op op_mulW (pe_op op_fdivW (pe_op op_mulW (pv 0) (pe_op op_sub (pv 0) pe_int)) pe_int) (pe_op op_fdivW (pv 2) (pv 1))) (pe_op op_mulW (pv 0) (pe_op op_fdivW (pv 3) (pv 1)))))))
      (pss_cons (ps_set (i := 6) sc_total_of.nd rfl (Or.inl rfl) (pe_op op_fdivW (pe_op op_add (pe_op op_mulW (pe_op op_mod (pv 2) (pv 1)) (pe_op op_sub (pv 0) pe_int)) (pe_op op_mod (pv 3) (pv 1))) (pv 1)))
      (pss_cons (ps_set (i := 4) sc_total_of.nd rfl (Or.inl rfl) (pe_op op_add (pv 4) (pe_op op_mulW (pe_op op_mulW (pv 5) (pe_op op_sub (pv 0) pe_int)) (pv 6))))
      (pss_cons (ps_asg (pe_tup (pa_cons (pv 6) (pa_cons (pe_op op_mod (pv 2) (pv 1)) (pa_cons (pv 1) (pa_cons (pe_op op_sub (pe_op op_sub (pv 1) (pe_op op_mod (pv 3) (pv 1))) pe_int) pa_nil))))) (pg_tup rfl (pgs_cons (pg_name (i := 0) sc_total_of.nd rfl (Or.inl rfl)) (pgs_cons (pg_name (i := 1) sc_total_of.nd rfl (Or.inl rfl)) (pgs_cons (pg_name (i := 2) sc_total_of.nd rfl (Or.inl rfl)) (pgs_cons (pg_name (i := 3) sc_total_of.nd rfl (Or.inl rfl)) pgs_nil))))))
      (pss_one (ps_set (i := 5) sc_total_of.nd rfl (Or.inl rfl) (pe_un un_neg (pv 5)))))))))
      (pss_one (ps_ret (pv 4))))), ?_⟩
    refine ⟨by show 2 ≤ sizeLine; decide, fun p hp => ⟨_, _, rfl, SqT.of upd_same, rfl, _, _, rfl, _, _, rfl, rfl, ?_⟩⟩
    refine ⟨fun m σ H' => ∃ (n r a b t g : Int) (v : Option V), σ = [some (.int n), some (.int r), some (.int a), some (.int b), some (.int t), some (.int g), v] ∧ Same H H' ∧ 0 ≤ n ∧ (0 < n → 0 < r) ∧ Bd 700 n ∧ Bd 700 r ∧ Bd 700 a ∧ Bd 700 b ∧ (g = 1 ∨ g = -1) ∧ m = r.toNat ∧
      t + g * fsum n.toNat r a b = fsum n0.toNat r0 a0 b0, ⟨_, n0, r0, a0, b0, 0, 1, none, rfl, Same.new hp, hn0, fun _ => hr0, bn0, br0, ba0, bb0, Or.inl rfl, rfl, by omega⟩, ?_⟩
    rintro m σ H1 ⟨n, r, a, b, t, g, v, rfl, s1, hn, hrp, bn, br, ba, bb, hg, rfl, inv⟩
    refine ⟨_, rfl, _, _, rfl, rfl, _, rfl, ite2 (fun h => ?_) (fun h => ?_)⟩
    · have n1 : 0 < n := of_decide_eq_true h
      have r1 : 0 < r := hrp n1
      obtain ⟨t0, t1, t2, st⟩ := fsum_step n.toNat r a b (by omega) r1
      rw [Int.toNat_of_nonneg hn] at t0 t1 t2 st
      refine ⟨_, fun _ _ z => z, ?_⟩
      have bg : Bd 64 g := Bd.sgn hg
      refine ⟨_, rfl, _, rfl, _, rfl, _, rfl, _, _, rfl, rfl, _, _, rfl, rfl, (by walk_at "mul"), _, _, rfl, rfl, (by walk_at "div"), _, rfl, _, rfl, _, _, rfl, rfl, (by walk_at "div"), _, _, rfl, rfl, (by walk_at "mul"), _, rfl, _, rfl, _, rfl, _, _, rfl, rfl, (by walk_at "div"), _, _, rfl, rfl, (by walk_at "mul"), _, _, rfl, rfl, _, _, rfl, rfl, (by walk_at "mul"), _, _, rfl, rfl, _, rfl, _, rfl, _, _, rfl, rfl, (by walk_at "pos"), _, rfl, _, _, rfl, rfl, _, _, rfl, rfl, (by walk_at "mul"), _, rfl, _, rfl, _, _, rfl, rfl, (by walk_at "pos"), _, _, rfl, rfl, _, rfl, _, _, rfl, rfl, (by walk_at "div"), _, rfl, _, rfl, _, rfl, _, _, rfl, rfl, _, _, rfl, rfl, (by walk_at "mul"), _, rfl, _, _, rfl, rfl, (by walk_at "mul"), _, _, rfl, rfl, ?_⟩
      refine ⟨_, rfl, _, rfl, _, rfl, _, _, rfl, rfl, (by walk_at "pos"), _, rfl, _, rfl, _, rfl, _, rfl, _, _, rfl, rfl, (by walk_at "pos"), _, _, rfl, rfl, _, _, rfl, rfl, by show 4 ≤ sizeLine; decide, fun p hp => ⟨_, _, rfl, SqT.of upd_same, rfl, _, _, rfl, _, _, rfl, _, _, rfl, _, _, rfl, rfl, ?_⟩⟩
      refine ⟨_, rfl, _, rfl, ?_⟩
      have l0 := Int.emod_nonneg a (show r ≠ 0 by omega)
      have l1 := Int.emod_lt_of_pos a r1
      have m0 := Int.emod_nonneg b (show r ≠ 0 by omega)
      have m1 := Int.emod_lt_of_pos b r1
      refine ⟨(a % r).toNat, by omega, _, _, _, _, _, _, _, rfl, s1.add hp, t0, fun z => ?_, bn.le t0 (by omega), br.le l0 (by omega), br, br.le (by omega) (by omega), by omega, rfl, ?_⟩
      · rcases Int.lt_or_eq_of_le l0 with q | q
        · exact q
        · have := t2 q.symm
          omega
      · rw [← inv, st]
        have e : ∀ x y z u : Int, t + g * (x + y) + g * (n - 1) * z + -g * u = t + g * (x + y + (n - 1) * z - u) := fun x y z u => by
          rw [Int.mul_assoc g (n - 1) z, Int.neg_mul]
          generalize (n - 1) * z = q
          rw [Int.mul_sub g, Int.mul_add g (x + y)]
          omega
        exact e _ _ _ _
    · have n0 : n = 0 := by have : ¬ 0 < n := fun z => h (decide_eq_true z); omega
      subst n0
      refine ⟨_, rfl, ?_⟩
      have e : t = fsum n0.toNat r0 a0 b0 := by
        rw [← inv]
        show t = t + g * 0
        omega
      rw [e]
      exact k _ s1

def sp_count_in : Sp := fun vs H Q _ => ∃ n r a b l : Int, vs = [.int n, .int r, .int a, .int b, .int l] ∧ 0 ≤ n ∧ 0 < r ∧ 0 ≤ l ∧ l ≤ r ∧ Bd 700 n ∧ Bd 600 r ∧ Bd 700 a ∧ Bd 600 b ∧
  ∀ H', Same H H' → Q (.int (sumN n.toNat fun k => ind ((a * (k : Int) + b) % r < l))) H'
theorem sc_count_in : FnScope ["many", "run", "rise", "start", "length"] ["many", "run", "rise", "start", "length"] (C8.fnScope s_count_in) := C8.fnScope_by (by decide +kernel)
theorem cal_count_in (T : Txt K mg) : C8.Cal P w K mg base 2 "count_in" sp_count_in [] := by
  refine cal_mk (T.D_count_in) (T.g_count_in) (fun _ _ _ _ _ _ us hl => match us, hl with | [_, _, _, _, _], _ => rfl) sc_count_in (fun vs H Q E h => ?_) (fun cdv A outer s H vs Q E hr h => ?_)
  · obtain ⟨n, r, a, b, l, rfl, _⟩ := h
    rfl
  · obtain ⟨n, r, a, b, l, rfl, hn, hr0, hl0, hl1, bn, br, ba, bb, k⟩ := h
    refine ⟨_, (pss_one (ps_ret (pe_op op_sub (C8.pe_c (cal_total_of T) hr (by decide) rfl (pa_cons (pv 0) (pa_cons (pv 1) (pa_cons (pv 2) (pa_cons (pv 3) pa_nil))))) (C8.pe_c (cal_total_of T) hr (by decide) rfl (pa_cons (pv 0) (pa_cons (pv 1) (pa_cons (pv 2) (pa_cons (pe_op op_sub (pv 3) (pv 4)) pa_nil)))))))), ?_⟩
    have bl : Bd 600 l := br.le hl0 hl1
    refine ⟨_, rfl, _, rfl, _, rfl, _, rfl, n, r, a, b, rfl, hn, hr0, bn, br.mono (by decide), ba, bb.mono (by decide), fun H1 s1 => ?_⟩
    refine ⟨_, rfl, _, rfl, _, rfl, _, rfl, _, rfl, _, _, rfl, rfl, n, r, a, b - l, rfl, hn, hr0, bn, br.mono (by decide), ba, (Bd.sub bb bl).mono (by decide), fun H2 s2 => ?_⟩
    refine ⟨_, _, rfl, rfl, ?_⟩
    show Q (.int (fsum n.toNat r a b - fsum n.toNat r a (b - l))) H2
    rw [count_floor n.toNat r a b l hr0 hl0 hl1]
    exact k _ (s1.trans s2)

/-! ### the least t -/
def Tups (H : Hp) (xs : List V) (st : List (Int × Int × Int)) : Prop := xs.length = st.length ∧ ∀ (j : Nat) t, st[j]? = some t → ∃ q, xs[j]? = some (.ref q) ∧ H q = some (.tup [.int t.1, .int t.2.1, .int t.2.2])
theorem Tups.mono {H H' : Hp} {xs : List V} {st : List (Int × Int × Int)} (h : Tups H xs st) (e : ∀ q ys, H q = some (.tup ys) → H' q = some (.tup ys)) : Tups H' xs st := ⟨h.1, fun j t ht => by
  obtain ⟨q, a, b⟩ := h.2 j t ht
  exact ⟨q, a, e _ _ b⟩⟩
theorem Tups.snoc {H : Hp} {xs : List V} {st : List (Int × Int × Int)} {q : Addr} {t : Int × Int × Int} (h : Tups H xs st) (e : H q = some (.tup [.int t.1, .int t.2.1, .int t.2.2])) : Tups H (xs ++ [.ref q]) (st ++ [t]) := by
  refine ⟨by simp [h.1], fun j u hu => ?_⟩
  rcases Nat.lt_or_ge j st.length with l | l
  · rw [List.getElem?_append_left l] at hu
    obtain ⟨p, a, b⟩ := h.2 j u hu
    exact ⟨p, by rw [List.getElem?_append_left (by rw [h.1]; exact l)]; exact a, b⟩
  · rw [List.getElem?_append_right l] at hu
    have z : j - st.length = 0 := by
      by_cases z : j - st.length = 0
      · exact z
      · rw [List.getElem?_eq_none (by simp; omega)] at hu; cases hu
    rw [z] at hu
    have e2 : t = u := Option.some.inj hu
    subst e2
    exact ⟨q, by rw [List.getElem?_append_right (by rw [h.1]; exact l), h.1, z]; rfl, e⟩
theorem Tups.rev {H : Hp} {xs : List V} {st : List (Int × Int × Int)} (h : Tups H xs st) : Tups H xs.reverse st.reverse := by
  refine ⟨by simp [h.1], fun j u hu => ?_⟩
  have l : j < st.length := by
    have := (List.getElem?_eq_some_iff.mp hu).1
    simpa using this
  rw [List.getElem?_reverse l] at hu
  obtain ⟨p, a, b⟩ := h.2 _ u hu
  exact ⟨p, by rw [List.getElem?_reverse (by rw [h.1]; exact l), h.1]; exact a, b⟩

def sp_first_in : Sp := fun vs H Q _ => ∃ R a lo hi : Int, vs = [.int R, .int a, .int lo, .int hi] ∧ Ask R (a % R) lo hi ∧ Bd 300 R ∧ ∀ t H', Same H H' → Least R a lo hi t → Q (.int t) H'
theorem sc_first_in : FnScope ["run", "rise", "low", "high", "found", "steps", "length", "pace", "least"] ["run", "rise", "low", "high"] (C8.fnScope s_first_in) := C8.fnScope_by (by decide +kernel)
theorem cal_first_in (T : Txt K mg) : C8.Cal P w K mg base 1 "first_in" sp_first_in [] := by
  refine cal_mk (T.D_first_in) (T.g_first_in) (fun _ _ _ _ _ _ us hl => match us, hl with | [_, _, _, _], _ => rfl) sc_first_in (fun vs H Q E h => ?_) (fun cdv A outer s H vs Q E hr h => ?_)
  · obtain ⟨R, a, lo, hi, rfl, _⟩ := h
    rfl
  · obtain ⟨R, a0, LO, HI, rfl, ask, bR, k⟩ := h
    have R0 := ask.m0
    refine ⟨_, (pss_cons (ps_par (i := 4) (j := 5) (by rfl) sc_first_in.nd rfl rfl (by decide) rfl rfl (pa_cons pe_non (pa_cons (pe_lst pa_nil) pa_nil)) (by rfl))
      (pss_cons (ps_set (i := 1) sc_first_in.nd rfl (Or.inl rfl) (pe_op op_mod (pv 1) (pv 0)))
      (pss_cons (ps_while PassesOwn.never (pt_cmpR op_isN (pv 4) pe_non (nomark _))
      (pss_one (ps_if (pt_cmpR op_eq (pv 2) pe_int (nomark _)) (pss_one (ps_set (i := 4) sc_first_in.nd rfl (Or.inl rfl) pe_int))
      (pss_one (ps_if (pt_cmpR op_eq (pv 1) pe_int (nomark _)) (pss_one (ps_ret pe_non))
      (pss_one (ps_if (pt_cmpR op_le (pe_op op_mulW (pv 1) (pe_un un_neg (pe_op op_fdivW (pe_un un_neg (pv 2)) (pv 1)))) (pv 3) (nomark _)) (pss_one (ps_set (i := 4) sc_first_in.nd rfl (Or.inl rfl) (pe_un un_neg (pe_op op_fdivW (pe_un un_neg (pv 2)) (pv 1)))))
      (pss_cons (ps_expr (pe_bm PySem.F.plainAttrs_list PySem.F.slot_list_append PySem.F.type_list_append mt_append (pv 5) (pa_cons (pe_tup (pa_cons (pv 0) (pa_cons (pv 1) (pa_cons (pv 2) pa_nil)))) pa_nil)))
      (pss_one (ps_asg (pe_tup (pa_cons (pv 1) (pa_cons (pe_op op_mod (pv 0) (pv 1)) (pa_cons (pe_op op_mod (pe_un un_neg (pv 3)) (pv 1)) (pa_cons (pe_op op_mod (pe_un un_neg (pv 2)) (pv 1)) pa_nil))))) (pg_tup rfl (pgs_cons (pg_name (i := 0) sc_first_in.nd rfl (Or.inl rfl)) (pgs_cons (pg_name (i := 1) sc_first_in.nd rfl (Or.inl rfl)) (pgs_cons (pg_name (i := 2) sc_first_in.nd rfl (Or.inl rfl)) (pgs_cons (pg_name (i := 3) sc_first_in.nd rfl (Or.inl rfl)) pgs_nil)))))))))))))))
      (pss_cons (ps_for PassesOwn.never rfl (pi_list (pe_revL (pv 5))) (pg_tup rfl (pgs_cons (pg_name (i := 6) sc_first_in.nd rfl (Or.inl rfl)) (pgs_cons (pg_name (i := 7) sc_first_in.nd rfl (Or.inl rfl)) (pgs_cons (pg_name (i := 8) sc_first_in.nd rfl (Or.inl rfl)) pgs_nil))))
      (pss_one (ps_set (i := 4) sc_first_in.nd rfl (Or.inl rfl) (pe_un un_neg (pe_op op_fdivW (pe_un un_neg (pe_op op_add (pv 8) (pe_op op_mulW (pv 6) (pv 4)))) (pv 7))))))
      (pss_one (ps_ret (pv 4))))))), ?_⟩
    refine ⟨Nat.zero_le _, fun l hl => ⟨_, _, rfl, _, rfl, _, rfl, _, _, rfl, rfl, (by walk_at "pos"), ?_⟩⟩
    refine ⟨fun m σ H1 => ∃ (r a lo hi : Int) (st : List (Int × Int × Int)) (xs : List V) (fv : V), σ = [some (.int r), some (.int a), some (.int lo), some (.int hi), some fv, some (.ref l), none, none, none] ∧ Same H H1 ∧ H1 l = some (.lst xs) ∧ Tups H1 xs st ∧
      Ask r a lo hi ∧ r ≤ R ∧ Chn R (a0 % R) LO HI st.reverse r a lo hi ∧ 2 ^ st.length * (r * a) ≤ 2 ^ 600 ∧ ((fv = .non ∧ m = r.toNat + 1) ∨ ∃ x, fv = .int x ∧ Least r a lo hi x ∧ m = 0),
      ⟨_, R, a0 % R, LO, HI, [], [], .non, rfl, Same.new hl, upd_same, ⟨rfl, fun j t ht => by simp at ht⟩, ask, Int.le_refl _, ⟨rfl, rfl, rfl, rfl⟩, ?_, Or.inl ⟨rfl, rfl⟩⟩, ?_⟩
    · have b1 : Bd 300 (a0 % R) := Bd.mod bR R0
      have b2 := Bd.mul bR b1
      have b3 : (R * (a0 % R)).natAbs < 2 ^ 600 := b2
      have b4 : ((2 : Nat) ^ 600 : Nat) = (2 : Int) ^ 600 := by decide +kernel
      have := Int.mul_nonneg (Int.le_of_lt R0) ask.a0
      rw [List.length_nil, Int.pow_zero, Int.one_mul]
      omega
    rintro m σ H1 ⟨r, a, lo, hi, st, xs, fv, rfl, s1, hL, tu, ak, rR, ch, pw, hf⟩
    have r0 := ak.m0
    have br : Bd 300 r := bR.le (by omega) rR
    have ba : Bd 300 a := br.le ak.a0 (Int.le_of_lt ak.am)
    have blo : Bd 300 lo := br.le ak.l0 (by have := ak.lh; have := ak.hm; omega)
    refine ⟨_, rfl, rfl, _, rfl, ite2 (fun h => ?_) (fun h => ?_)⟩
    · obtain ⟨rfl, rfl⟩ : fv = .non ∧ m = r.toNat + 1 := by
        rcases hf with z | ⟨x, rfl, _⟩
        · exact z
        · cases of_decide_eq_true h
      refine ⟨_, fun _ _ z => z, ?_⟩
      refine ⟨_, rfl, rfl, _, rfl, ite2 (fun h0 => ?_) (fun h0 => ?_)⟩
      · have e0 : lo = 0 := by have := of_decide_eq_true h0; injection this
        subst e0
        exact ⟨0, by omega, r, a, 0, hi, st, xs, .int 0, rfl, s1, hL, tu, ak, rR, ch, pw, Or.inr ⟨0, rfl, least_zero r0 ak.lh, rfl⟩⟩
      have lo0 : lo ≠ 0 := fun z => h0 (decide_eq_true (by rw [z]))
      have a1 := ak.pos lo0
      refine ⟨_, rfl, rfl, _, rfl, ite2 (fun h1 => ?_) (fun h1 => ?_)⟩
      · have e0 : a = 0 := by have := of_decide_eq_true h1; injection this
        omega
      refine ⟨_, rfl, _, rfl, _, rfl, _, rfl, _, _, rfl, rfl, (by walk_at "div"), _, rfl, _, _, rfl, rfl, (by walk_at "mul"), _, rfl, _, _, rfl, rfl, _, rfl, ite2 (fun h2 => ?_) (fun h2 => ?_)⟩
      · have d : a * K21.cdv lo a ≤ hi := of_decide_eq_true h2
        refine ⟨_, rfl, _, rfl, _, rfl, _, _, rfl, rfl, (by walk_at "div"), _, rfl, ?_⟩
        exact ⟨0, by omega, r, a, lo, hi, st, xs, _, rfl, s1, hL, tu, ak, rR, ch, pw, Or.inr ⟨_, rfl, least_direct r0 a1 ak.l0 ak.hm d, rfl⟩⟩
      · have d : ¬ a * K21.cdv lo a ≤ hi := fun z => h2 (decide_eq_true z)
        have len : st.length ≤ 600 := steps_le (x := r * a) (by have := Int.mul_le_mul (show 1 ≤ r by omega) (show 1 ≤ a by omega) (by decide) (by omega); omega) pw
        refine ⟨_, rfl, Or.inl ⟨rfl, _, SqL.of hL⟩, _, rfl, _, rfl, _, rfl, by show 3 ≤ sizeLine; decide, fun p hp => ?_⟩
        have npl : l ≠ p := ne_of_none hL hp
        have hL2 : upd H1 p (.tup [.int r, .int a, .int lo]) l = some (.lst xs) := by rw [upd_ne npl]; exact hL
        refine ⟨l, _, _, rfl, rfl, hL2, Nat.lt_of_le_of_lt (show xs.length ≤ 600 by rw [tu.1]; exact len) (by decide), ?_⟩
        refine ⟨_, rfl, _, rfl, _, rfl, _, _, rfl, rfl, (by walk_at "pos"), _, rfl, _, rfl, _, rfl, _, _, rfl, rfl, (by walk_at "pos"), _, rfl, _, rfl, _, rfl, _, _, rfl, rfl, (by walk_at "pos"), by show 4 ≤ sizeLine; decide, fun p2 hp2 => ⟨_, _, rfl, SqT.of upd_same, rfl, _, _, rfl, _, _, rfl, _, _, rfl, _, _, rfl, rfl, ?_⟩⟩
        have npl2 : l ≠ p2 := fun z => by rw [← z, upd_same] at hp2; cases hp2
        refine ⟨a.toNat + 1, by have := ak.am; omega, a, r % a, -hi % a, -lo % a, st ++ [(r, a, lo)], xs ++ [.ref p], .non, rfl, ?_, ?_, ?_, ak.next lo0 d, by have := ak.am; omega, ?_, ?_, Or.inl ⟨rfl, rfl⟩⟩
        · exact (Same.mut (s1.add hp) hl).add hp2
        · rw [upd_ne npl2, upd_same]
        · refine Tups.snoc (tu.mono fun q ys e => ?_) ?_
          · have n1 : q ≠ p := ne_of_none e hp
            have n2 : q ≠ l := ne_of e hL (fun z => by cases z)
            have n3 : q ≠ p2 := fun z => by
              rw [← z, upd_ne n2, upd_ne n1, e] at hp2
              cases hp2
            rw [upd_ne n3, upd_ne n2, upd_ne n1]
            exact e
          · have n3 : p ≠ p2 := fun z => by
              rw [← z, upd_ne npl.symm, upd_same] at hp2
              cases hp2
            rw [upd_ne n3, upd_ne npl.symm, upd_same]
        · rw [List.reverse_append]
          exact ⟨hi, ak, lo0, d, rfl, rfl, rfl, rfl, rR, ch⟩
        · rw [List.length_append]
          exact half_step a1 pw (Int.le_of_lt ak.am)
    · rcases hf with ⟨rfl, _⟩ | ⟨x, rfl, lx, _⟩
      · exact absurd (decide_eq_true rfl) h
      refine ⟨_, rfl, l, _, rfl, SqL.of hL, fun pr hpr => ⟨pr, rfl, ⟨_, SqL.of upd_same⟩, ?_⟩⟩
      have tr : Tups (upd H1 pr (.lst xs.reverse)) xs.reverse st.reverse := tu.rev.mono fun q ys e => by rw [upd_ne (ne_of_none e hpr)]; exact e
      refine for_list (K := K) (a := pr) (xs := xs.reverse) (fun i σ H' => ∃ (v0 v1 v2 v3 v5 v6 v7 v8 : Option V) (r a lo hi x : Int), σ = [v0, v1, v2, v3, some (.int x), v5, v6, v7, v8] ∧ Same (upd H1 pr (.lst xs.reverse)) H' ∧
        r ≤ R ∧ 0 < r ∧ Chn R (a0 % R) LO HI (st.reverse.drop i) r a lo hi ∧ Least r a lo hi x) ⟨_, _, _, _, _, _, _, _, r, a, lo, hi, x, rfl, Same.refl _, rR, r0, ch, lx⟩ ?_ ?_ ?_
      · rintro i σ H' _ ⟨_, _, _, _, _, _, _, _, _, _, _, _, _, _, s2, _⟩
        exact s2.seq (SqL.of upd_same)
      · rintro i y σ H' hy ⟨v0, v1, v2, v3, v5, v6, v7, v8, r, a, lo, hi, x, rfl, s2, rR, r0, ch, lx⟩
        have hi' : i < st.reverse.length := by
          have := (List.getElem?_eq_some_iff.mp hy).1
          rw [tr.1] at this
          exact this
        obtain ⟨q, e1, e2⟩ := tr.2 i _ (List.getElem?_eq_getElem hi')
        rw [hy] at e1
        obtain rfl : y = .ref q := Option.some.inj e1
        rw [List.drop_eq_getElem_cons hi'] at ch
        obtain ⟨⟨m, a', lo'⟩, et⟩ : ∃ t, st.reverse[i] = t := ⟨_, rfl⟩
        rw [et] at ch e2
        obtain ⟨hi2, ak2, lo2, d2, rfl, rfl, rfl, rfl, mR, ch2⟩ := ch
        have bm : Bd 300 m := bR.le (Int.le_of_lt ak2.m0) mR
        have br : Bd 300 r := bR.le (by omega) rR
        have bx : Bd 300 x := br.le lx.1.1 (Int.le_of_lt (lx.lt r0))
        refine ⟨q, _, rfl, SqT.of (s2 _ _ e2), rfl, _, _, rfl, _, _, rfl, _, _, rfl, rfl, ?_⟩
        refine ⟨_, rfl, _, rfl, _, rfl, _, _, rfl, rfl, (by walk_at "mul"), _, _, rfl, rfl, _, rfl, _, rfl, _, _, rfl, rfl, (by walk_at "div"), _, rfl, ?_⟩
        exact ⟨_, _, _, _, _, _, _, _, m, r, lo', hi2, _, rfl, s2, mR, ak2.m0, ch2, least_step ak2.m0 r0 (by have := ak2.l0; omega) ak2.lh ak2.hm d2 lx⟩
      · rintro σ H' ⟨v0, v1, v2, v3, v5, v6, v7, v8, r, a, lo, hi, x, rfl, s2, rR, r0, ch, lx⟩
        rw [List.drop_eq_nil_of_le (by rw [tr.1]; exact Nat.le_refl _)] at ch
        obtain ⟨rfl, rfl, rfl, rfl⟩ := ch
        refine ⟨_, rfl, ?_⟩
        exact k x H' ((s1.add hpr).trans s2) (least_mod.mp lx)
end
end K21

set_option Elab.async false
set_option linter.all false
set_option maxRecDepth 100000
set_option maxHeartbeats 4000000
set_option exponentiation.threshold 2000
/-! The walk: first_from, windows, courses. -/
namespace K21
open PySem PySem.Spec PyProof.Rows L2
local macro_rules | `(tactic| walk_at "pos") => `(tactic| first | assumption | ((with_reducible show (0 : Int) < _); first | assumption | omega | decide) | decide)
local macro_rules | `(tactic| walk_at "b") => `(tactic| (repeat' (first | ((with_reducible show Bd _ _); first | assumption | exact Bd.lit64 (by decide) | (refine' Bd.add ?_ ?_) | (refine' Bd.sub ?_ ?_) | (refine' Bd.mul ?_ ?_) | (refine' Bd.neg ?_) | (refine' Bd.div ?_ ?_) | (refine' Bd.mod ?_ ?_)) | ((with_reducible show (_ : Int) < _); first | assumption | omega))))
local macro_rules | `(tactic| walk_at "mul") => `(tactic| exact Bd.mulW (by walk_at "b") (by walk_at "b") (by decide))
local macro_rules | `(tactic| walk_at "div") => `(tactic| exact Bd.divW (by walk_at "pos") (by walk_at "b") (by decide))
/-! ### windows and courses as objects -/
structure Win where
  m : Int
  z : Int
  q : Int
def wn (m z q : Int) : Win := if 0 < q ∧ q < m then ⟨m, z % m, q⟩ else ⟨1, 0, if 0 < q then 1 else 0⟩
def winF (w : Win) : List (Str × V) := [("period", .int w.m), ("first", .int w.z), ("length", .int w.q)]
def crsF (c : Crs) : List (Str × V) := [("houses", .int c.h), ("run", .int c.q), ("start", .int c.S), ("rise", .int c.e)]
theorem F_Window_period (w : Win) : (winF w).lookup ("period" : Str) = some (V.int w.m) := rfl
theorem F_Window_first (w : Win) : (winF w).lookup ("first" : Str) = some (V.int w.z) := rfl
theorem F_Window_length (w : Win) : (winF w).lookup ("length" : Str) = some (V.int w.q) := rfl
theorem F_Course_houses (c : Crs) : (crsF c).lookup ("houses" : Str) = some (V.int c.h) := rfl
theorem F_Course_run (c : Crs) : (crsF c).lookup ("run" : Str) = some (V.int c.q) := rfl
theorem F_Course_start (c : Crs) : (crsF c).lookup ("start" : Str) = some (V.int c.S) := rfl
theorem F_Course_rise (c : Crs) : (crsF c).lookup ("rise" : Str) = some (V.int c.e) := rfl
def WinAt (K : PySem.W.Frag) (H : Hp) (p : Addr) (w : Win) : Prop := ∃ dx, H p = some (.ins (He.ga K "Window") dx (winF w))
def CrsAt (K : PySem.W.Frag) (H : Hp) (p : Addr) (c : Crs) : Prop := ∃ dx, H p = some (.ins (He.ga K "Course") dx (crsF c))
theorem CrsAt.mono {K : PySem.W.Frag} {H H' : Hp} {p : Addr} {c : Crs} (h : CrsAt K H p c) (s : Same H H') : CrsAt K H' p c := let ⟨dx, e⟩ := h; ⟨dx, s _ _ e⟩
theorem WinAt.mono {K : PySem.W.Frag} {H H' : Hp} {p : Addr} {c : Win} (h : WinAt K H p c) (s : Same H H') : WinAt K H' p c := let ⟨dx, e⟩ := h; ⟨dx, s _ _ e⟩
/-- a new instance, filled -/
theorem same_made {H : Hp} {x dx C : Addr} {fs : List (Str × V)} (nx : H x = none) (nd : H dx = none) : Same H (upd (upd (upd H dx (.own x)) x (.ins C dx [])) x (.ins C dx fs)) := fun b o e => by
  rw [upd_ne (ne_of_none e nx), upd_ne (ne_of_none e nx), upd_ne (ne_of_none e nd)]
  exact e

section
variable {P : Program} {w : World} {K : PySem.W.Frag} {mg : Str → Option Value} {base : Heap}
def sp_first_from : Sp := fun vs H Q _ => ∃ r a s l : Int, vs = [.int r, .int a, .int s, .int l] ∧ 0 < r ∧ 0 ≤ a ∧ a < r ∧ 0 < l ∧ l ≤ r ∧ Bd 300 r ∧ (∃ t, 0 ≤ t ∧ (a * t + s) % r < l) ∧ ∀ t H', Same H H' → IsFrom r a s l t → Q (.int t) H'
theorem sc_first_from : FnScope ["run", "rise", "start", "length", "low"] ["run", "rise", "start", "length"] (C8.fnScope s_first_from) := C8.fnScope_by (by decide +kernel)
theorem cal_first_from (T : Txt K mg) : C8.Cal P w K mg base 2 "first_from" sp_first_from [] := by
  refine cal_mk (T.D_first_from) (T.g_first_from) (fun _ _ _ _ _ _ us hl => match us, hl with | [_, _, _, _], _ => rfl) sc_first_from (fun vs H Q E h => ?_) (fun cdv A outer s H vs Q E hr h => ?_)
  · obtain ⟨r, a, s, l, rfl, _⟩ := h
    rfl
  · obtain ⟨r, a, z, l, rfl, r0, a0, ar, l0, lr, br, ex, k⟩ := h
    refine ⟨_, (pss_cons (ps_set (i := 4) sc_first_from.nd rfl (Or.inl rfl) (pe_op op_mod (pe_un un_neg (pv 2)) (pv 0)))
      (pss_cons (ps_if (PW.pt (pw_and (pt_cmpR op_gt (pv 3) pe_int (nomark _)) (pw_and1 (pt_cmpR op_gt (pe_op op_add (pv 4) (pv 3)) (pv 0) (nomark _))))) (pss_one (ps_ret pe_int))
      pss_nil)
      (pss_one (ps_ret (pe_ifExp (pt_cmpR op_gt (pv 3) pe_int (nomark _)) (C8.pe_c (cal_first_in T) hr (by decide) rfl (pa_cons (pv 0) (pa_cons (pv 1) (pa_cons (pv 4) (pa_cons (pe_op op_sub (pe_op op_add (pv 4) (pv 3)) pe_int) pa_nil))))) pe_non))))), ?_⟩
    refine ⟨_, rfl, _, rfl, _, rfl, _, _, rfl, rfl, (by walk_at "pos"), ?_⟩
    refine ⟨_, rfl, _, _, rfl, rfl, _, rfl, ?_⟩
    rw [decide_eq_true l0]
    refine iteT ⟨_, rfl, _, rfl, _, _, rfl, rfl, _, rfl, _, _, rfl, rfl, _, rfl, ite2 (fun h => ?_) (fun h => ?_)⟩
    · exact k 0 H (Same.refl H) (from_zero r0 l0 (of_decide_eq_true h) lr)
    · have hh : -z % r + l ≤ r := by have : ¬ r < -z % r + l := fun q => h (decide_eq_true q); omega
      refine ⟨_, rfl, _, _, rfl, rfl, _, rfl, ?_⟩
      rw [decide_eq_true l0]
      have em : a % r = a := Int.emod_eq_of_lt a0 ar
      refine iteT ⟨_, rfl, _, rfl, _, rfl, _, rfl, _, rfl, _, _, rfl, rfl, _, _, rfl, rfl, r, a, _, _, rfl, by rw [em]; exact from_ask r0 l0 hh a0 ar ex, br, fun t H1 s1 lt => ?_⟩
      exact k t H1 s1 (from_least r0 hh lt)

/-! ### Window -/
def sp_W_init (K : PySem.W.Frag) : Sp := fun vs H Q _ => ∃ (p dx : Addr) (m z q : Int), vs = [.ref p, .int m, .int z, .int q] ∧ 1 ≤ m ∧ 0 ≤ q ∧ q ≤ m ∧ H p = some (.ins (He.ga K "Window") dx []) ∧ Q .non (upd H p (.ins (He.ga K "Window") dx (winF (wn m z q))))
theorem sc_W_init : FnScope ["self", "period", "first", "length", "some"] ["self", "period", "first", "length"] (C8.fnScope s_W_init) := C8.fnScope_by (by decide +kernel)
theorem mak_Window (T : Txt K mg) : C8.Mak P w K mg base 4 "Window" (He.ga K "Window") (sp_W_init K) [] := by
  refine mak_mk T.k_Window (T.D_W_init) (T.g_Window) (fun _ _ _ _ _ _ us hl => match us, hl with | [_, _, _, _], _ => rfl) sc_W_init (fun vs H Q E h => ?_) (fun cdv A outer s H vs Q E hr h => ?_)
  · obtain ⟨p, dx, m, z, q, rfl, _⟩ := h
    rfl
  · obtain ⟨p, dx, m, z, q, rfl, m1, q0, qm, hp, k⟩ := h
    refine ⟨_, (pss_cons (ps_expr (C8.pe_c (cal_need_positive T) hr (by decide) rfl (pa_cons (pv 1) pa_nil)))
      (pss_cons (ps_expr (C8.pe_c (cal_need_integer T) hr (by decide) rfl (pa_cons (pv 2) pa_nil)))
      (pss_cons (ps_expr (C8.pe_c (cal_need_whole T) hr (by decide) rfl (pa_cons (pv 3) pa_nil)))
      (pss_cons (ps_if (pt_cmpR op_gt (pv 3) (pv 1) (nomark _)) (pss_one ps_never)
      pss_nil)
      (pss_cons (ps_set (i := 4) sc_W_init.nd rfl (Or.inl rfl) (pe_chain op_lt op_lt pe_int (pv 3) (pv 1)))
      (pss_cons (ps_fld (pv 0) (pe_ifExp (pt_val (pv 4)) (pv 1) pe_int) rfl)
      (pss_cons (ps_fld (pv 0) (pe_ifExp (pt_val (pv 4)) (pe_op op_mod (pv 2) (pv 1)) pe_int) rfl)
      (pss_one (ps_fld (pv 0) (pe_ifExp (pt_val (pv 4)) (pv 3) (pe_callTy call_int1 (by rfl) T.f_int b_int (pa_cons (pe_cmpR op_gt (pv 3) pe_int (nomark _)) pa_nil))) rfl))))))))), ?_⟩
    refine ⟨_, rfl, m, rfl, m1, _, rfl, z, rfl, _, rfl, q, rfl, q0, ?_⟩
    refine ⟨_, rfl, _, rfl, _, _, rfl, rfl, _, rfl, ?_⟩
    rw [decide_eq_false (show ¬ m < q by omega)]
    refine iteF ?_
    refine ⟨_, rfl, _, _, rfl, rfl, _, rfl, ?_⟩
    have fin : ∀ v1 v2 v3 : Int, (⟨v1, v2, v3⟩ : Win) = wn m z q → Q .non (upd (upd (upd H p (.ins (He.ga K "Window") dx (putF "period" (.int v1) []))) p (.ins (He.ga K "Window") dx (putF "first" (.int v2) (putF "period" (.int v1) [])))) p (.ins (He.ga K "Window") dx (putF "length" (.int v3) (putF "first" (.int v2) (putF "period" (.int v1) []))))) := fun v1 v2 v3 e => by
      rw [upd_upd, upd_upd]
      have e2 : putF "length" (.int v3) (putF "first" (.int v2) (putF "period" (.int v1) [])) = winF ⟨v1, v2, v3⟩ := rfl
      rw [e2, e]
      exact k
    refine ite2 (fun h0 => ?_) (fun h0 => ?_)
    · have q1 : 0 < q := of_decide_eq_true h0
      refine ⟨_, rfl, _, _, rfl, rfl, ?_⟩
      by_cases h1 : q < m
      · refine ⟨_, rfl, _, rfl, ite2 (fun _ => ⟨_, rfl, _, rfl, _, _, _, _, rfl, hp, T.c_Window, T.n_Window_period, (by decide), ?_⟩) (fun g => absurd (decide_eq_true h1) g)⟩
        refine ⟨_, rfl, _, rfl, ite2 (fun _ => ⟨_, rfl, _, rfl, _, _, rfl, rfl, (by walk_at "pos"), _, rfl, _, _, _, _, rfl, upd_same, T.c_Window, T.n_Window_first, (by show 1 < 1000; decide), ?_⟩) (fun g => absurd (decide_eq_true h1) g)⟩
        refine ⟨_, rfl, _, rfl, ite2 (fun _ => ⟨_, rfl, _, rfl, _, _, _, _, rfl, upd_same, T.c_Window, T.n_Window_length, (by show 2 < 1000; decide), ?_⟩) (fun g => absurd (decide_eq_true h1) g)⟩
        exact fin _ _ _ (by unfold wn; rw [if_pos ⟨q1, h1⟩])
      · refine ⟨_, rfl, _, rfl, ite2 (fun g => absurd (of_decide_eq_true g) h1) (fun _ => ⟨_, rfl, _, _, _, _, rfl, hp, T.c_Window, T.n_Window_period, (by decide), ?_⟩)⟩
        refine ⟨_, rfl, _, rfl, ite2 (fun g => absurd (of_decide_eq_true g) h1) (fun _ => ⟨_, rfl, _, _, _, _, rfl, upd_same, T.c_Window, T.n_Window_first, (by show 1 < 1000; decide), ?_⟩)⟩
        refine ⟨_, rfl, _, rfl, ite2 (fun g => absurd (of_decide_eq_true g) h1) (fun _ => ⟨_, rfl, _, _, rfl, rfl, Or.inr ⟨_, rfl, _, rfl, _, _, _, _, rfl, upd_same, T.c_Window, T.n_Window_length, (by show 2 < 1000; decide), ?_⟩⟩)⟩
        exact fin _ _ _ (by simp [wn, q1, h1])
    · have q1 : ¬ 0 < q := fun z => h0 (decide_eq_true z)
      refine ⟨_, rfl, false, rfl, iteF ⟨_, rfl, _, _, _, _, rfl, hp, T.c_Window, T.n_Window_period, (by decide), ?_⟩⟩
      refine ⟨_, rfl, false, rfl, iteF ⟨_, rfl, _, _, _, _, rfl, upd_same, T.c_Window, T.n_Window_first, (by show 1 < 1000; decide), ?_⟩⟩
      refine ⟨_, rfl, false, rfl, iteF ⟨_, rfl, _, _, rfl, rfl, Or.inr ⟨_, rfl, _, rfl, _, _, _, _, rfl, upd_same, T.c_Window, T.n_Window_length, (by show 2 < 1000; decide), ?_⟩⟩⟩
      exact fin _ _ _ (by simp [wn, q1])

def sp_W_contains (K : PySem.W.Frag) : Sp := fun vs H Q _ => ∃ (p : Addr) (k : Int) (w : Win), vs = [.ref p, .int k] ∧ WinAt K H p w ∧ 0 ≤ k ∧ 0 < w.m ∧ Q (.bl (decide ((k - w.z) % w.m < w.q))) H
theorem sc_W_contains : FnScope ["self", "k"] ["self", "k"] (C8.fnScope s_W_contains) := C8.fnScope_by (by decide +kernel)
theorem met_W_contains (T : Txt K mg) : C8.Met P w K mg base 4 (He.ga K "Window") "__contains__" (sp_W_contains K) [] := by
  refine met_mk T.c_Window T.m_W_contains (T.D_W_contains) (fun _ _ _ _ _ _ us hl => match us, hl with | [_, _], _ => rfl) sc_W_contains (fun vs H Q E h => ?_) (fun cdv A outer s H vs Q E hr h => ?_)
  · obtain ⟨p, k, w, rfl, _⟩ := h
    rfl
  · obtain ⟨p, x, w, rfl, ⟨dx, hp⟩, x0, m0, k⟩ := h
    refine ⟨_, (pss_cons (ps_expr (C8.pe_c (cal_need_whole T) hr (by decide) rfl (pa_cons (pv 1) pa_nil)))
      (pss_one (ps_ret (pe_cmpR op_lt (pe_op op_mod (pe_op op_sub (pv 1) (pe_fld (pv 0) rfl)) (pe_fld (pv 0) rfl)) (pe_fld (pv 0) rfl) (nomark _))))), ?_⟩
    refine ⟨_, rfl, x, rfl, x0, ?_⟩
    refine ⟨_, rfl, _, rfl, _, _, _, _, _, rfl, hp, T.c_Window, T.n_Window_first, F_Window_first _, _, _, rfl, rfl, _, rfl, _, _, _, _, _, rfl, hp, T.c_Window, T.n_Window_period, F_Window_period _, _, _, rfl, rfl, (by walk_at "pos"), _, rfl, _, _, _, _, _, rfl, hp, T.c_Window, T.n_Window_length, F_Window_length _, _, _, rfl, rfl, ?_⟩
    exact k
end
end K21

set_option Elab.async false
set_option linter.all false
set_option maxRecDepth 100000
set_option maxHeartbeats 4000000
set_option exponentiation.threshold 2000
/-! The walk: courses. -/
namespace K21
open PySem PySem.Spec PyProof.Rows L2
local macro_rules | `(tactic| walk_at "pos") => `(tactic| first | assumption | ((with_reducible show (0 : Int) < _); first | assumption | omega | decide) | decide)
local macro_rules | `(tactic| walk_at "b") => `(tactic| (repeat' (first | ((with_reducible show Bd _ _); first | assumption | exact Bd.lit64 (by decide) | (refine' Bd.add ?_ ?_) | (refine' Bd.sub ?_ ?_) | (refine' Bd.mul ?_ ?_) | (refine' Bd.neg ?_) | (refine' Bd.div ?_ ?_) | (refine' Bd.mod ?_ ?_)) | ((with_reducible show (_ : Int) < _); first | assumption | omega))))
local macro_rules | `(tactic| walk_at "mul") => `(tactic| exact Bd.mulW (by walk_at "b") (by walk_at "b") (by decide))
local macro_rules | `(tactic| walk_at "div") => `(tactic| exact Bd.divW (by walk_at "pos") (by walk_at "b") (by decide))
theorem tIf_join {t : TT} {ta tb : TE} {σ : L2.St} {H : Hp} {Q : VK} {c : Bool} {v1 v2 v : V} (ht : ∀ Q' : Bool → Hp → Prop, Q' c H → t σ H Q') (h1 : ∀ Q' : VK, Q' v1 H → ta σ H Q') (h2 : ∀ Q' : VK, Q' v2 H → tb σ H Q')
    (hv : (if c = true then v1 else v2) = v) (hq : Q v H) : tIf t ta tb σ H Q := by
  refine ht _ ?_
  cases c with
  | true =>
    have e : v1 = v := hv
    subst e
    exact iteT (h1 _ hq)
  | false =>
    have e : v2 = v := hv
    subst e
    exact iteF (h2 _ hq)
theorem tAndV_join {ta tb : TE} {σ : L2.St} {H : Hp} {Q : VK} {a b : Bool} (ha : ∀ Q' : VK, Q' (.bl a) H → ta σ H Q') (hb : ∀ Q' : VK, Q' (.bl b) H → tb σ H Q') (hq : Q (.bl (a && b)) H) : tAndV ta tb σ H Q := by
  refine ha _ ⟨a, rfl, ?_⟩
  cases a with
  | true => exact iteT (hb _ hq)
  | false => exact iteF hq
theorem tOrV_join {ta tb : TE} {σ : L2.St} {H : Hp} {Q : VK} {a b : Bool} (ha : ∀ Q' : VK, Q' (.bl a) H → ta σ H Q') (hb : ∀ Q' : VK, Q' (.bl b) H → tb σ H Q') (hq : Q (.bl (a || b)) H) : tOrV ta tb σ H Q := by
  refine ha _ ⟨a, rfl, ?_⟩
  cases a with
  | true => exact iteT hq
  | false => exact iteF (hb _ hq)

theorem ite_dec {c : Prop} [Decidable c] (x y : Int) : (if decide c = true then V.int x else V.int y) = V.int (if c then x else y) := by
  by_cases h : c <;> simp [h]
theorem seq_in {t u : TS} {D : Ends} {σ : L2.St} {H : Hp} (h : t { D with nx := u D } σ H) : tSeq t u D σ H := h
theorem asg_in {te : TE} {g : TG} {D : Ends} {σ : L2.St} {H : Hp} (h : te σ H fun x H1 => g x σ H1 D.nx) : tAsg te g D σ H := h
theorem op_in {r : R2} {ta tb : TE} {σ : L2.St} {H : Hp} {Q : VK} (h : ta σ H fun x H1 => tb σ H1 fun y H2 => r x y H2 Q) : tOp r ta tb σ H Q := h
theorem fld_in {K : PySem.W.Frag} {ta tv : TE} {f : Str} {D : Ends} {σ : L2.St} {H : Hp} (h : tv σ H fun y H1 => ta σ H1 fun x H2 => ∃ a C dx fs, x = .ref a ∧ H2 a = some (.ins C dx fs) ∧ Cls K C ∧ NoAttr K C f ∧ fs.length < 1000 ∧ D.nx σ (upd H2 a (.ins C dx (putF f y fs)))) : sFld K ta tv f D σ H := h
/-- a course in its form, not too great -/
structure Crs.Sm (c : Crs) : Prop where
  ok : c.Ok
  bq : Bd 140 c.q
  bh : Bd 140 c.h
theorem Crs.Sm.bm {c : Crs} (s : c.Sm) : Bd 280 c.m := Bd.mul s.bq s.bh
theorem Crs.Sm.bS {c : Crs} (s : c.Sm) : Bd 280 c.S := s.bm.le s.ok.S0 (Int.le_of_lt s.ok.Sm)
theorem Crs.Sm.be {c : Crs} (s : c.Sm) : Bd 280 c.e := s.bm.le s.ok.e0 (Int.le_of_lt s.ok.em)
theorem Crs.Sm.bd {c : Crs} (s : c.Sm) : Bd 280 c.d := s.bm.le (by have := s.ok.d1; omega) (Int.le_of_dvd (by have := s.ok.m1; omega) c.d_dvd_m)
theorem Crs.Sm.bM {c : Crs} (s : c.Sm) : Bd 280 c.M := s.bm.le (by have := s.ok.M1; omega) s.ok.Mm
theorem nrm_sm {h s e q : Int} (h1 : 1 ≤ h) (q1 : 1 ≤ q) (bh : Bd 140 h) (bq : Bd 140 q) : (nrm h s e q).Sm := by
  refine ⟨nrm_ok h1 q1, ?_, bh⟩
  show Bd 140 (if 1 < h then q else 1)
  split
  · exact bq
  · exact (show (1 : Int).natAbs < 2 ^ 140 by decide)

section
variable {P : Program} {w : World} {K : PySem.W.Frag} {mg : Str → Option Value} {base : Heap}
def sp_C_init (K : PySem.W.Frag) : Sp := fun vs H Q _ => ∃ (p dx : Addr) (h s e q : Int), vs = [.ref p, .int h, .int s, .int e, .int q] ∧ 1 ≤ h ∧ 1 ≤ q ∧ Nat.gcd q.natAbs e.natAbs = 1 ∧ Bd 140 h ∧ Bd 140 q ∧ H p = some (.ins (He.ga K "Course") dx []) ∧
  Q .non (upd H p (.ins (He.ga K "Course") dx (crsF (nrm h s e q))))
theorem sc_C_init : FnScope ["self", "houses", "start", "rise", "run", "marks", "turned"] ["self", "houses", "start", "rise", "run"] (C8.fnScope s_C_init) := C8.fnScope_by (by decide +kernel)
theorem mak_Course (T : Txt K mg) : C8.Mak P w K mg base 4 "Course" (He.ga K "Course") (sp_C_init K) [] := by
  refine mak_mk T.k_Course (T.D_C_init) (T.g_Course) (fun _ _ _ _ _ _ us hl => match us, hl with | [_, _, _, _, _], _ => rfl) sc_C_init (fun vs H Q E h => ?_) (fun cdv A outer s H vs Q E hr h => ?_)
  · obtain ⟨p, dx, h, s, e, q, rfl, _⟩ := h
    rfl
  · obtain ⟨p, dx, h, z, e, q, rfl, h1, q1, cop, bh, bq, hp, k⟩ := h
    refine ⟨_, (pss_cons (ps_expr (C8.pe_c (cal_need_positive T) hr (by decide) rfl (pa_cons (pv 1) pa_nil)))
      (pss_cons (ps_expr (C8.pe_c (cal_need_integer T) hr (by decide) rfl (pa_cons (pv 2) pa_nil)))
      (pss_cons (ps_expr (C8.pe_c (cal_need_integer T) hr (by decide) rfl (pa_cons (pv 3) pa_nil)))
      (pss_cons (ps_expr (C8.pe_c (cal_need_positive T) hr (by decide) rfl (pa_cons (pv 4) pa_nil)))
      (pss_cons (ps_if (pt_cmpR op_ne (C8.pe_c (cal_common_factor T) hr (by decide) rfl (pa_cons (pv 4) (pa_cons (pe_callB call_abs (by rfl) T.f_abs b_abs (pa_cons (pv 3) pa_nil)) pa_nil))) pe_int (nomark _)) (pss_one ps_never)
      pss_nil)
      (pss_cons (ps_fld (pv 0) (pv 1) rfl)
      (pss_cons (ps_fld (pv 0) (pe_ifExp (pt_cmpR op_gt (pv 1) pe_int (nomark _)) (pv 4) pe_int) rfl)
      (pss_cons (ps_set (i := 5) sc_C_init.nd rfl (Or.inl rfl) (pe_op op_mulW (pe_fld (pv 0) rfl) (pv 1)))
      (pss_cons (ps_set (i := 6) sc_C_init.nd rfl (Or.inl rfl) (pe_and (pe_cmpR op_eq (pv 1) pe_int (nomark _)) (pe_one (pe_cmpR op_gt (pe_op op_mod (pv 3) (pv 5)) (pv 4) (nomark _)))))
      (pss_cons (ps_fld (pv 0) (pe_op op_mod (pe_ifExp (pt_val (pv 6)) (pe_op op_sub (pe_op op_sub (pv 4) pe_int) (pv 2)) (pv 2)) (pv 5)) rfl)
      (pss_one (ps_fld (pv 0) (pe_op op_mod (pe_ifExp (pt_val (pv 6)) (pe_un un_neg (pv 3)) (pv 3)) (pv 5)) rfl)))))))))))), ?_⟩
    have g1 : Nat.gcd q.natAbs (if e < 0 then -e else e).natAbs = 1 := by
      rw [show (if e < 0 then -e else e).natAbs = e.natAbs by split <;> omega]
      exact cop
    refine ⟨_, rfl, h, rfl, h1, _, rfl, z, rfl, _, rfl, e, rfl, _, rfl, q, rfl, q1, ?_⟩
    refine ⟨_, rfl, _, rfl, _, rfl, q, _, rfl, by omega, by split <;> omega, rfl, _, rfl, iteNS (congrArg V.int (by rw [g1]; rfl)) ?_⟩
    refine ⟨_, rfl, _, rfl, _, _, _, _, rfl, hp, T.c_Course, T.n_Course_houses, (by decide), ?_⟩
    obtain ⟨r, hr1⟩ : ∃ r, r = if 1 < h then q else 1 := ⟨_, rfl⟩
    have r1 : 1 ≤ r := by rw [hr1]; split <;> omega
    have br : Bd 140 r := by
      rw [hr1]
      split
      · exact bq
      · exact (show (1 : Int).natAbs < 2 ^ 140 by decide)
    have m1 : 0 < r * h := Int.mul_pos (by omega) (by omega)
    dsimp only []
    refine seq_in (fld_in ?_)
    refine tIf_join (c := decide (1 < h)) (v1 := .int q) (v2 := .int 1) (v := .int r) (fun Q' q' => ⟨_, rfl, _, _, rfl, rfl, _, rfl, q'⟩) (fun Q' q' => ⟨_, rfl, q'⟩) (fun Q' q' => q') (by rw [hr1]; by_cases hh : 1 < h <;> simp [hh]) ?_
    refine ⟨_, rfl, _, _, _, _, rfl, upd_same, T.c_Course, T.n_Course_run, (by show 1 < 1000; decide), ?_⟩
    refine ⟨_, rfl, _, _, _, _, _, rfl, upd_same, T.c_Course, T.n_Course_run, rfl, _, rfl, _, _, rfl, rfl, (by walk_at "mul"), ?_⟩
    dsimp only []
    refine seq_in (asg_in ?_)
    refine tAndV_join (a := decide (V.int h = V.int 2)) (b := decide (q < e % (r * h))) (fun Q' q' => ⟨_, rfl, rfl, q'⟩) (fun Q' q' => ⟨_, rfl, _, rfl, _, _, rfl, rfl, m1, _, rfl, _, _, rfl, rfl, q'⟩) ?_
    have tn : (decide (V.int h = V.int 2) && decide (q < e % (r * h))) = decide (h = 2 ∧ q < e % (r * h)) := by
      by_cases a : h = 2 <;> by_cases b : q < e % (r * h) <;> simp [a, b]
    rw [tn]
    dsimp only []
    refine seq_in (fld_in (op_in ?_))
    refine tIf_join (c := decide (h = 2 ∧ q < e % (r * h))) (v1 := .int (q - 1 - z)) (v2 := .int z) (v := .int (if h = 2 ∧ q < e % (r * h) then q - 1 - z else z)) (fun Q' q' => ⟨_, rfl, _, rfl, q'⟩) (fun Q' q' => ⟨_, rfl, _, _, rfl, rfl, _, rfl, _, _, rfl, rfl, q'⟩) (fun Q' q' => ⟨_, rfl, q'⟩)
      (ite_dec _ _) ?_
    refine ⟨_, rfl, _, _, rfl, rfl, m1, _, rfl, _, _, _, _, rfl, upd_same, T.c_Course, T.n_Course_start, (by show 2 < 1000; decide), ?_⟩
    dsimp only []
    refine fld_in (op_in ?_)
    refine tIf_join (c := decide (h = 2 ∧ q < e % (r * h))) (v1 := .int (-e)) (v2 := .int e) (v := .int (if h = 2 ∧ q < e % (r * h) then -e else e)) (fun Q' q' => ⟨_, rfl, _, rfl, q'⟩) (fun Q' q' => ⟨_, rfl, _, rfl, q'⟩) (fun Q' q' => ⟨_, rfl, q'⟩)
      (ite_dec _ _) ?_
    refine ⟨_, rfl, _, _, rfl, rfl, m1, _, rfl, _, _, _, _, rfl, upd_same, T.c_Course, T.n_Course_rise, (by show 3 < 1000; decide), ?_⟩
    rw [upd_upd, upd_upd, upd_upd]
    subst hr1
    exact k

def sp_C_marks (K : PySem.W.Frag) : Sp := fun vs H Q _ => ∃ (p : Addr) (c : Crs), vs = [.ref p] ∧ CrsAt K H p c ∧ c.Sm ∧ Q (.int c.m) H
theorem sc_C_marks : FnScope ["self"] ["self"] (C8.fnScope s_C_marks) := C8.fnScope_by (by decide +kernel)
theorem met_C_marks (T : Txt K mg) : C8.Met P w K mg base 1 (He.ga K "Course") "marks" (sp_C_marks K) [] := by
  refine met_mk T.c_Course T.m_C_marks (T.D_C_marks) (fun _ _ _ _ _ _ us hl => match us, hl with | [_], _ => rfl) sc_C_marks (fun vs H Q E h => ?_) (fun cdv A outer s H vs Q E hr h => ?_)
  · obtain ⟨p, c, rfl, _⟩ := h
    rfl
  · obtain ⟨p, c, rfl, ⟨dx, hp⟩, sm, k⟩ := h
    have b1 := sm.bq
    have b2 := sm.bh
    refine ⟨_, (pss_one (ps_ret (pe_op op_mulW (pe_fld (pv 0) rfl) (pe_fld (pv 0) rfl)))), ?_⟩
    exact ⟨_, rfl, _, _, _, _, _, rfl, hp, T.c_Course, T.n_Course_run, F_Course_run _, _, rfl, _, _, _, _, _, rfl, hp, T.c_Course, T.n_Course_houses, F_Course_houses _, _, _, rfl, rfl, (by walk_at "mul"), k⟩

def sp_C_spacing (K : PySem.W.Frag) : Sp := fun vs H Q _ => ∃ (p : Addr) (c : Crs), vs = [.ref p] ∧ CrsAt K H p c ∧ c.Sm ∧ Q (.int c.d) H
theorem sc_C_spacing : FnScope ["self"] ["self"] (C8.fnScope s_C_spacing) := C8.fnScope_by (by decide +kernel)
theorem met_C_spacing (T : Txt K mg) : C8.Met P w K mg base 2 (He.ga K "Course") "spacing" (sp_C_spacing K) [] := by
  refine met_mk T.c_Course T.m_C_spacing (T.D_C_spacing) (fun _ _ _ _ _ _ us hl => match us, hl with | [_], _ => rfl) sc_C_spacing (fun vs H Q E h => ?_) (fun cdv A outer s H vs Q E hr h => ?_)
  · obtain ⟨p, c, rfl, _⟩ := h
    rfl
  · obtain ⟨p, c, rfl, ⟨dx, hp⟩, sm, k⟩ := h
    refine ⟨_, (pss_one (ps_ret (C8.pe_c (cal_common_factor T) hr (by decide) rfl (pa_cons (pe_fld (pv 0) rfl) (pa_cons (C8.pe_mt0 (met_C_marks T) hr (by decide) (pv 0)) pa_nil))))), ?_⟩
    exact ⟨_, rfl, _, _, _, _, _, rfl, hp, T.c_Course, T.n_Course_rise, F_Course_rise _, _, rfl, _, _, _, rfl, hp, rfl, _, c, rfl, ⟨_, hp⟩, sm, _, _, rfl, sm.ok.e0, by have := sm.ok.m1; omega, k⟩

def sp_C_turn (K : PySem.W.Frag) : Sp := fun vs H Q _ => ∃ (p : Addr) (c : Crs), vs = [.ref p] ∧ CrsAt K H p c ∧ c.Sm ∧ Q (.int c.M) H
theorem sc_C_turn : FnScope ["self"] ["self"] (C8.fnScope s_C_turn) := C8.fnScope_by (by decide +kernel)
theorem met_C_turn (T : Txt K mg) : C8.Met P w K mg base 3 (He.ga K "Course") "turn" (sp_C_turn K) [] := by
  refine met_mk T.c_Course T.m_C_turn (T.D_C_turn) (fun _ _ _ _ _ _ us hl => match us, hl with | [_], _ => rfl) sc_C_turn (fun vs H Q E h => ?_) (fun cdv A outer s H vs Q E hr h => ?_)
  · obtain ⟨p, c, rfl, _⟩ := h
    rfl
  · obtain ⟨p, c, rfl, ⟨dx, hp⟩, sm, k⟩ := h
    have b1 := sm.bd
    have d1 : 0 < c.d := sm.ok.d1
    refine ⟨_, (pss_one (ps_ret (pe_op op_fdivW (C8.pe_mt0 (met_C_marks T) hr (by decide) (pv 0)) (C8.pe_mt0 (met_C_spacing T) hr (by decide) (pv 0))))), ?_⟩
    exact ⟨_, rfl, _, _, _, rfl, hp, rfl, _, c, rfl, ⟨_, hp⟩, sm, _, rfl, _, _, _, rfl, hp, rfl, _, c, rfl, ⟨_, hp⟩, sm, _, _, rfl, rfl, (by walk_at "div"), k⟩

def sp_C_visits (K : PySem.W.Frag) : Sp := fun vs H Q _ => ∃ (p : Addr) (c : Crs) (x : Int), vs = [.ref p, .int x] ∧ CrsAt K H p c ∧ c.Sm ∧ Bd 140 x ∧ Q (.int (c.each x)) H
theorem sc_C_visits : FnScope ["self", "house", "spacing"] ["self", "house"] (C8.fnScope s_C_visits) := C8.fnScope_by (by decide +kernel)
theorem met_C_visits (T : Txt K mg) : C8.Met P w K mg base 3 (He.ga K "Course") "visits" (sp_C_visits K) [] := by
  refine met_mk T.c_Course T.m_C_visits (T.D_C_visits) (fun _ _ _ _ _ _ us hl => match us, hl with | [_, _], _ => rfl) sc_C_visits (fun vs H Q E h => ?_) (fun cdv A outer s H vs Q E hr h => ?_)
  · obtain ⟨p, c, x, rfl, _⟩ := h
    rfl
  · obtain ⟨p, c, x, rfl, ⟨dx, hp⟩, sm, bx, k⟩ := h
    have b1 := sm.bd
    have b2 := sm.bq
    have d1 : 0 < c.d := sm.ok.d1
    refine ⟨_, (pss_cons (ps_set (i := 2) sc_C_visits.nd rfl (Or.inl rfl) (C8.pe_mt0 (met_C_spacing T) hr (by decide) (pv 0)))
      (pss_one (ps_ret (pe_op op_add (pe_op op_fdivW (pe_op op_sub (pe_op op_sub (pe_fld (pv 0) rfl) pe_int) (pe_op op_mod (pe_op op_sub (pe_fld (pv 0) rfl) (pe_op op_mulW (pv 1) (pe_fld (pv 0) rfl))) (pv 2))) (pv 2)) pe_int)))), ?_⟩
    exact ⟨_, rfl, _, _, _, rfl, hp, rfl, _, c, rfl, ⟨_, hp⟩, sm, _, rfl, _, _, _, _, _, rfl, hp, T.c_Course, T.n_Course_run, F_Course_run _, _, _, rfl, rfl, _, rfl, _, _, _, _, _, rfl, hp, T.c_Course, T.n_Course_start, F_Course_start _, _, rfl, _, rfl, _, _, _, _, _, rfl, hp, T.c_Course, T.n_Course_run, F_Course_run _, _, _, rfl, rfl, (by walk_at "mul"), _, _, rfl, rfl, _, rfl, _, _, rfl, rfl, (by walk_at "pos"), _, _, rfl, rfl, _, rfl, _, _, rfl, rfl, (by walk_at "div"), _, _, rfl, rfl, k⟩

def sp_C_counted (K : PySem.W.Frag) : Sp := fun vs H Q _ => ∃ (p : Addr) (c : Crs) (x n : Int), vs = [.ref p, .int x, .int n] ∧ CrsAt K H p c ∧ c.Sm ∧ Bd 140 x ∧ 0 ≤ n ∧ Bd 700 n ∧
  ∀ H', Same H H' → Q (.int (sumN n.toNat fun k => ind ((c.e * (k : Int) + c.off x) % c.m < c.q))) H'
theorem sc_C_counted : FnScope ["self", "house", "many"] ["self", "house", "many"] (C8.fnScope s_C_counted) := C8.fnScope_by (by decide +kernel)
theorem met_C_counted (T : Txt K mg) : C8.Met P w K mg base 3 (He.ga K "Course") "counted" (sp_C_counted K) [] := by
  refine met_mk T.c_Course T.m_C_counted (T.D_C_counted) (fun _ _ _ _ _ _ us hl => match us, hl with | [_, _, _], _ => rfl) sc_C_counted (fun vs H Q E h => ?_) (fun cdv A outer s H vs Q E hr h => ?_)
  · obtain ⟨p, c, x, n, rfl, _⟩ := h
    rfl
  · obtain ⟨p, c, x, n, rfl, ⟨dx, hp⟩, sm, bx, n0, bn, k⟩ := h
    have b2 := sm.bq
    refine ⟨_, (pss_one (ps_ret (C8.pe_c (cal_count_in T) hr (by decide) rfl (pa_cons (pv 2) (pa_cons (C8.pe_mt0 (met_C_marks T) hr (by decide) (pv 0)) (pa_cons (pe_fld (pv 0) rfl) (pa_cons (pe_op op_sub (pe_fld (pv 0) rfl) (pe_op op_mulW (pv 1) (pe_fld (pv 0) rfl))) (pa_cons (pe_fld (pv 0) rfl) pa_nil)))))))), ?_⟩
    refine ⟨_, rfl, _, rfl, _, _, _, rfl, hp, rfl, _, c, rfl, ⟨_, hp⟩, sm, _, rfl, _, _, _, _, _, rfl, hp, T.c_Course, T.n_Course_rise, F_Course_rise _, _, rfl, _, _, _, _, _, rfl, hp, T.c_Course, T.n_Course_start, F_Course_start _, _, rfl, _, rfl, _, _, _, _, _, rfl, hp, T.c_Course, T.n_Course_run, F_Course_run _, _, _, rfl, rfl, (by walk_at "mul"), _, _, rfl, rfl, _, rfl, _, _, _, _, _, rfl, hp, T.c_Course, T.n_Course_run, F_Course_run _, ?_⟩
    exact ⟨n, c.m, c.e, _, c.q, rfl, n0, sm.ok.m1, by have := sm.ok.q1; omega, sm.ok.qm, bn, sm.bm.mono (by decide), sm.be.mono (by decide), (Bd.sub sm.bS (Bd.mul bx b2)).mono (by decide), k⟩

def sp_C_count (K : PySem.W.Frag) : Sp := fun vs H Q _ => ∃ (p : Addr) (c : Crs) (x n : Int), vs = [.ref p, .int x, .int n] ∧ CrsAt K H p c ∧ c.Sm ∧ 0 ≤ x ∧ x < c.h ∧ 0 ≤ n ∧ Bd 700 n ∧
  ∀ H', Same H H' → Q (.int (sumN n.toNat fun k => ind ((c.e * (k : Int) + c.off x) % c.m < c.q))) H'
theorem sc_C_count : FnScope ["self", "house", "many"] ["self", "house", "many"] (C8.fnScope s_C_count) := C8.fnScope_by (by decide +kernel)
theorem met_C_count (T : Txt K mg) : C8.Met P w K mg base 4 (He.ga K "Course") "count" (sp_C_count K) [] := by
  refine met_mk T.c_Course T.m_C_count (T.D_C_count) (fun _ _ _ _ _ _ us hl => match us, hl with | [_, _, _], _ => rfl) sc_C_count (fun vs H Q E h => ?_) (fun cdv A outer s H vs Q E hr h => ?_)
  · obtain ⟨p, c, x, n, rfl, _⟩ := h
    rfl
  · obtain ⟨p, c, x, n, rfl, ⟨dx, hp⟩, sm, x0, xh, n0, bn, k⟩ := h
    have bx : Bd 140 x := sm.bh.le x0 (Int.le_of_lt xh)
    refine ⟨_, (pss_cons (ps_expr (C8.pe_c (cal_need_below T) hr (by decide) rfl (pa_cons (pv 1) (pa_cons (pe_fld (pv 0) rfl) pa_nil))))
      (pss_cons (ps_expr (C8.pe_c (cal_need_whole T) hr (by decide) rfl (pa_cons (pv 2) pa_nil)))
      (pss_one (ps_ret (C8.pe_mt (met_C_counted T) hr (by decide) (pv 0) (pa_cons (pv 1) (pa_cons (pv 2) pa_nil))))))), ?_⟩
    refine ⟨_, rfl, _, rfl, _, _, _, _, _, rfl, hp, T.c_Course, T.n_Course_houses, F_Course_houses _, x, _, rfl, x0, xh, _, rfl, n, rfl, n0, ?_⟩
    exact ⟨_, rfl, _, _, _, rfl, hp, rfl, _, rfl, _, rfl, p, c, x, n, rfl, ⟨_, hp⟩, sm, bx, n0, bn, k⟩

def sp_C_next_visit (K : PySem.W.Frag) : Sp := fun vs H Q _ => ∃ (p : Addr) (c : Crs) (x y : Int), vs = [.ref p, .int x, .int y] ∧ CrsAt K H p c ∧ c.Sm ∧ 0 ≤ x ∧ x < c.h ∧ 0 ≤ y ∧ Bd 300 y ∧ 1 ≤ c.each x ∧
  ∀ t H', Same H H' → IsFrom c.m c.e (c.st x y) c.q t → Q (.int (y + t)) H'
theorem sc_C_next_visit : FnScope ["self", "house", "k", "found"] ["self", "house", "k"] (C8.fnScope s_C_next_visit) := C8.fnScope_by (by decide +kernel)
theorem met_C_next_visit (T : Txt K mg) : C8.Met P w K mg base 4 (He.ga K "Course") "next_visit" (sp_C_next_visit K) [] := by
  refine met_mk T.c_Course T.m_C_next_visit (T.D_C_next_visit) (fun _ _ _ _ _ _ us hl => match us, hl with | [_, _, _], _ => rfl) sc_C_next_visit (fun vs H Q E h => ?_) (fun cdv A outer s H vs Q E hr h => ?_)
  · obtain ⟨p, c, x, n, rfl, _⟩ := h
    rfl
  · obtain ⟨p, c, x, y, rfl, ⟨dx, hp⟩, sm, x0, xh, y0, bY, e1, k⟩ := h
    have bx : Bd 140 x := sm.bh.le x0 (Int.le_of_lt xh)
    have b2 := sm.bq
    have b3 := sm.be
    obtain ⟨yn, rfl⟩ := Int.eq_ofNat_of_zero_le y0
    refine ⟨_, (pss_cons (ps_expr (C8.pe_c (cal_need_below T) hr (by decide) rfl (pa_cons (pv 1) (pa_cons (pe_fld (pv 0) rfl) pa_nil))))
      (pss_cons (ps_expr (C8.pe_c (cal_need_whole T) hr (by decide) rfl (pa_cons (pv 2) pa_nil)))
      (pss_cons (ps_set (i := 3) sc_C_next_visit.nd rfl (Or.inl rfl) (C8.pe_c (cal_first_from T) hr (by decide) rfl (pa_cons (C8.pe_mt0 (met_C_marks T) hr (by decide) (pv 0)) (pa_cons (pe_fld (pv 0) rfl) (pa_cons (pe_op op_sub (pe_op op_add (pe_fld (pv 0) rfl) (pe_op op_mulW (pe_fld (pv 0) rfl) (pv 2))) (pe_op op_mulW (pv 1) (pe_fld (pv 0) rfl))) (pa_cons (pe_fld (pv 0) rfl) pa_nil))))))
      (pss_one (ps_ret (pe_ifExp (pt_cmpR op_isN (pv 3) pe_non (nomark _)) pe_non (pe_op op_add (pv 2) (pv 3)))))))), ?_⟩
    refine ⟨_, rfl, _, rfl, _, _, _, _, _, rfl, hp, T.c_Course, T.n_Course_houses, F_Course_houses _, x, _, rfl, x0, xh, _, rfl, _, rfl, y0, ?_⟩
    refine ⟨_, rfl, _, _, _, rfl, hp, rfl, _, c, rfl, ⟨_, hp⟩, sm, _, rfl, _, _, _, _, _, rfl, hp, T.c_Course, T.n_Course_rise, F_Course_rise _, _, rfl, _, _, _, _, _, rfl, hp, T.c_Course, T.n_Course_start, F_Course_start _, _, rfl, _, _, _, _, _, rfl, hp, T.c_Course, T.n_Course_rise, F_Course_rise _, _, rfl, _, _, rfl, rfl, (by walk_at "mul"), _, _, rfl, rfl, _, rfl, _, rfl, _, _, _, _, _, rfl, hp, T.c_Course, T.n_Course_run, F_Course_run _, _, _, rfl, rfl, (by walk_at "mul"), _, _, rfl, rfl, _, rfl, _, _, _, _, _, rfl, hp, T.c_Course, T.n_Course_run, F_Course_run _, ?_⟩
    refine ⟨c.m, c.e, _, c.q, rfl, sm.ok.m1, sm.ok.e0, sm.ok.em, sm.ok.q1, sm.ok.qm, sm.bm.mono (by decide), sm.ok.st_ex e1 yn, fun t H1 s1 ft => ?_⟩
    exact ⟨_, rfl, rfl, _, rfl, iteF ⟨_, rfl, _, rfl, _, _, rfl, rfl, k t H1 s1 ft⟩⟩
end
end K21

set_option Elab.async false
set_option linter.all false
set_option maxRecDepth 100000
set_option maxHeartbeats 4000000
set_option exponentiation.threshold 2000
/-! The walk: slow courses, gaps. -/
namespace K21
open PySem PySem.Spec PyProof.Rows L2
local macro_rules | `(tactic| walk_at "pos") => `(tactic| first | assumption | ((with_reducible show (0 : Int) < _); first | assumption | omega | decide) | decide)
local macro_rules | `(tactic| walk_at "b") => `(tactic| (repeat' (first | ((with_reducible show Bd _ _); first | assumption | exact Bd.lit64 (by decide) | (refine' Bd.add ?_ ?_) | (refine' Bd.sub ?_ ?_) | (refine' Bd.mul ?_ ?_) | (refine' Bd.neg ?_) | (refine' Bd.div ?_ ?_) | (refine' Bd.mod ?_ ?_)) | ((with_reducible show (_ : Int) < _); first | assumption | omega))))
local macro_rules | `(tactic| walk_at "mul") => `(tactic| exact Bd.mulW (by walk_at "b") (by walk_at "b") (by decide))
local macro_rules | `(tactic| walk_at "div") => `(tactic| exact Bd.divW (by walk_at "pos") (by walk_at "b") (by decide))
/-! ### pairs of ints -/
def pairOf (H : Hp) : V → Int × Int
  | .ref t => (match H t with
    | some (.tup [.int i, .int j]) => (i, j)
    | _ => (0, 0))
  | _ => (0, 0)
theorem pairOf_at {H : Hp} {t : Addr} {i j : Int} (h : H t = some (.tup [.int i, .int j])) : pairOf H (.ref t) = (i, j) := by
  show (match H t with
    | some (.tup [.int i, .int j]) => (i, j)
    | _ => (0, 0)) = (i, j)
  rw [h]
/-- xs are tuples of two ints: the pairs L -/
def Prs (H : Hp) (xs : List V) (L : List (Int × Int)) : Prop := (∀ x ∈ xs, ∃ t i j, x = V.ref t ∧ H t = some (.tup [.int i, .int j])) ∧ xs.map (pairOf H) = L
theorem Prs.mono {H H' : Hp} {xs : List V} {L : List (Int × Int)} (h : Prs H xs L) (s : ∀ q ys, H q = some (.tup ys) → H' q = some (.tup ys)) : Prs H' xs L := by
  refine ⟨fun x hx => ?_, ?_⟩
  · obtain ⟨t, i, j, e, ht⟩ := h.1 x hx
    exact ⟨t, i, j, e, s _ _ ht⟩
  · rw [← h.2]
    refine List.map_congr_left fun x hx => ?_
    obtain ⟨t, i, j, rfl, ht⟩ := h.1 x hx
    rw [pairOf_at ht, pairOf_at (s _ _ ht)]
theorem Prs.nil {H : Hp} : Prs H [] [] := ⟨fun x hx => (by cases hx), rfl⟩
theorem Prs.snoc {H : Hp} {xs : List V} {L : List (Int × Int)} {t : Addr} {a : Int × Int} (h : Prs H xs L) (e : H t = some (.tup [.int a.1, .int a.2])) : Prs H (xs ++ [.ref t]) (L ++ [a]) := by
  refine ⟨fun x hx => ?_, ?_⟩
  · rcases List.mem_append.mp hx with z | z
    · exact h.1 x z
    · rw [List.mem_singleton] at z
      exact ⟨t, a.1, a.2, z, e⟩
  · rw [List.map_append, h.2]
    show L ++ [pairOf H (.ref t)] = L ++ [a]
    rw [pairOf_at e]
theorem Prs.cons {H : Hp} {xs : List V} {L : List (Int × Int)} {t : Addr} {a : Int × Int} (h : Prs H xs L) (e : H t = some (.tup [.int a.1, .int a.2])) : Prs H (.ref t :: xs) (a :: L) := by
  refine ⟨fun x hx => ?_, ?_⟩
  · rcases List.mem_cons.mp hx with z | z
    · exact ⟨t, a.1, a.2, z, e⟩
    · exact h.1 x z
  · rw [List.map_cons, h.2, pairOf_at e]
theorem Prs.len {H : Hp} {xs : List V} {L : List (Int × Int)} (h : Prs H xs L) : xs.length = L.length := by
  rw [← h.2, List.length_map]
theorem Prs.get {H : Hp} {xs : List V} {L : List (Int × Int)} (h : Prs H xs L) {i : Nat} {x : V} (e : xs[i]? = some x) : ∃ t a, L[i]? = some a ∧ x = .ref t ∧ H t = some (.tup [.int a.1, .int a.2]) := by
  obtain ⟨t, k, j, rfl, ht⟩ := h.1 x (List.mem_of_getElem? e)
  refine ⟨t, (k, j), ?_, rfl, ht⟩
  rw [← h.2, List.getElem?_map, e]
  show some (pairOf H (.ref t)) = _
  rw [pairOf_at ht]
theorem take_succ_get {α : Type} {L : List α} {i : Nat} {a : α} (h : L[i]? = some a) : L.take (i + 1) = L.take i ++ [a] := by
  rw [List.take_add_one, h]
  rfl
/-- the answer of gaps -/
def GapRes (K : PySem.W.Frag) (c : Crs) (x : Int) (H : Hp) (v : V) : Prop := (c.each x = 0 ∧ v = .non) ∨ (1 ≤ c.each x ∧ ∃ g xs L, v = .ref g ∧ H g = some (.tup xs) ∧ Prs H xs L ∧ Told (c.vis x) c.Mn (c.each x) L)

section
variable {P : Program} {w : World} {K : PySem.W.Frag} {mg : Str → Option Value} {base : Heap}
def sp_C_is_resting (K : PySem.W.Frag) : Sp := fun vs H Q _ => ∃ (p : Addr) (c : Crs), vs = [.ref p] ∧ CrsAt K H p c ∧ c.Sm ∧ Q (.bl (decide (c.e = 0))) H
theorem sc_C_is_resting : FnScope ["self"] ["self"] (C8.fnScope s_C_is_resting) := C8.fnScope_by (by decide +kernel)
theorem met_C_is_resting (T : Txt K mg) : C8.Met P w K mg base 1 (He.ga K "Course") "is_resting" (sp_C_is_resting K) [] := by
  refine met_mk T.c_Course T.m_C_is_resting (T.D_C_is_resting) (fun _ _ _ _ _ _ us hl => match us, hl with | [_], _ => rfl) sc_C_is_resting (fun vs H Q E h => ?_) (fun cdv A outer s H vs Q E hr h => ?_)
  · obtain ⟨p, c, rfl, _⟩ := h
    rfl
  · obtain ⟨p, c, rfl, ⟨dx, hp⟩, sm, k⟩ := h
    refine ⟨_, (pss_one (ps_ret (pe_cmpR op_eq (pe_fld (pv 0) rfl) pe_int (nomark _)))), ?_⟩
    refine ⟨_, rfl, _, _, _, _, _, rfl, hp, T.c_Course, T.n_Course_rise, F_Course_rise _, rfl, ?_⟩
    have e : decide (V.int c.e = V.int 0) = decide (c.e = 0) := by by_cases h : c.e = 0 <;> simp [h]
    show Q (.bl (decide (V.int c.e = V.int 0))) H
    rw [e]
    exact k

def sp_C_is_slow (K : PySem.W.Frag) : Sp := fun vs H Q _ => ∃ (p : Addr) (c : Crs), vs = [.ref p] ∧ CrsAt K H p c ∧ c.Sm ∧ Q (.bl (decide ((c.e - 1) % c.m = 0) || decide ((c.e + 1) % c.m = 0))) H
theorem dec_int0 (x y : Int) : decide (V.int x = V.int y) = decide (x = y) := by by_cases h : x = y <;> simp [h]
theorem sc_C_is_slow : FnScope ["self"] ["self"] (C8.fnScope s_C_is_slow) := C8.fnScope_by (by decide +kernel)
theorem met_C_is_slow (T : Txt K mg) : C8.Met P w K mg base 2 (He.ga K "Course") "is_slow" (sp_C_is_slow K) [] := by
  refine met_mk T.c_Course T.m_C_is_slow (T.D_C_is_slow) (fun _ _ _ _ _ _ us hl => match us, hl with | [_], _ => rfl) sc_C_is_slow (fun vs H Q E h => ?_) (fun cdv A outer s H vs Q E hr h => ?_)
  · obtain ⟨p, c, rfl, _⟩ := h
    rfl
  · obtain ⟨p, c, rfl, ⟨dx, hp⟩, sm, k⟩ := h
    have m1 : 0 < c.m := sm.ok.m1
    refine ⟨_, (pss_one (ps_ret (pe_or (pe_cmpR op_eq (pe_op op_mod (pe_op op_sub (pe_fld (pv 0) rfl) pe_int) (C8.pe_mt0 (met_C_marks T) hr (by decide) (pv 0))) pe_int (nomark _)) (pe_one (pe_cmpR op_eq (pe_op op_mod (pe_op op_add (pe_fld (pv 0) rfl) pe_int) (C8.pe_mt0 (met_C_marks T) hr (by decide) (pv 0))) pe_int (nomark _)))))), ?_⟩
    refine ⟨_, rfl, _, _, _, _, _, rfl, hp, T.c_Course, T.n_Course_rise, F_Course_rise _, _, _, rfl, rfl, _, rfl, _, _, _, rfl, hp, rfl, _, c, rfl, ⟨_, hp⟩, sm, _, _, rfl, rfl, (by walk_at "pos"), rfl, _, rfl, ite2 (fun h => ?_) (fun h => ?_)⟩
    · rw [dec_int0] at h
      have h' : (c.e - 1) % c.m = 0 := of_decide_eq_true h
      rw [decide_eq_true h', Bool.true_or] at k
      exact k
    · rw [dec_int0] at h
      have h' : decide ((c.e - 1) % c.m = 0) = false := Bool.eq_false_iff.mpr h
      rw [h', Bool.false_or] at k
      refine ⟨_, rfl, _, _, _, _, _, rfl, hp, T.c_Course, T.n_Course_rise, F_Course_rise _, _, _, rfl, rfl, _, rfl, _, _, _, rfl, hp, rfl, _, c, rfl, ⟨_, hp⟩, sm, _, _, rfl, rfl, (by walk_at "pos"), rfl, ?_⟩
      show Q (.bl (decide (V.int ((c.e + 1) % c.m) = V.int 0))) H
      rw [dec_int0]
      exact k

def Crs.beg (c : Crs) (x : Int) : Int := if (c.e - 1) % c.m = 0 then x * c.q - c.S else c.S - x * c.q - c.q + 1
def sp_C_begins (K : PySem.W.Frag) : Sp := fun vs H Q _ => ∃ (p : Addr) (c : Crs) (x : Int), vs = [.ref p, .int x] ∧ CrsAt K H p c ∧ c.Sm ∧ Bd 140 x ∧ Q (.int (c.beg x)) H
theorem sc_C_begins : FnScope ["self", "house"] ["self", "house"] (C8.fnScope s_C_begins) := C8.fnScope_by (by decide +kernel)
theorem met_C_begins (T : Txt K mg) : C8.Met P w K mg base 2 (He.ga K "Course") "begins" (sp_C_begins K) [] := by
  refine met_mk T.c_Course T.m_C_begins (T.D_C_begins) (fun _ _ _ _ _ _ us hl => match us, hl with | [_, _], _ => rfl) sc_C_begins (fun vs H Q E h => ?_) (fun cdv A outer s H vs Q E hr h => ?_)
  · obtain ⟨p, c, x, rfl, _⟩ := h
    rfl
  · obtain ⟨p, c, x, rfl, ⟨dx, hp⟩, sm, bx, k⟩ := h
    have m1 : 0 < c.m := sm.ok.m1
    have b2 := sm.bq
    refine ⟨_, (pss_cons (ps_if (pt_cmpR op_eq (pe_op op_mod (pe_op op_sub (pe_fld (pv 0) rfl) pe_int) (C8.pe_mt0 (met_C_marks T) hr (by decide) (pv 0))) pe_int (nomark _)) (pss_one (ps_ret (pe_op op_sub (pe_op op_mulW (pv 1) (pe_fld (pv 0) rfl)) (pe_fld (pv 0) rfl))))
      pss_nil)
      (pss_one (ps_ret (pe_op op_add (pe_op op_sub (pe_op op_sub (pe_fld (pv 0) rfl) (pe_op op_mulW (pv 1) (pe_fld (pv 0) rfl))) (pe_fld (pv 0) rfl)) pe_int)))), ?_⟩
    refine ⟨_, rfl, _, _, _, _, _, rfl, hp, T.c_Course, T.n_Course_rise, F_Course_rise _, _, _, rfl, rfl, _, rfl, _, _, _, rfl, hp, rfl, _, c, rfl, ⟨_, hp⟩, sm, _, _, rfl, rfl, (by walk_at "pos"), rfl, _, rfl, ite2 (fun h => ?_) (fun h => ?_)⟩
    · rw [dec_int0] at h
      have h' : (c.e - 1) % c.m = 0 := of_decide_eq_true h
      unfold Crs.beg at k
      rw [if_pos h'] at k
      exact ⟨_, rfl, _, rfl, _, _, _, _, _, rfl, hp, T.c_Course, T.n_Course_run, F_Course_run _, _, _, rfl, rfl, (by walk_at "mul"), _, rfl, _, _, _, _, _, rfl, hp, T.c_Course, T.n_Course_start, F_Course_start _, _, _, rfl, rfl, k⟩
    · rw [dec_int0] at h
      have h' : ¬ (c.e - 1) % c.m = 0 := fun z => h (decide_eq_true z)
      unfold Crs.beg at k
      rw [if_neg h'] at k
      exact ⟨_, rfl, _, _, _, _, _, rfl, hp, T.c_Course, T.n_Course_start, F_Course_start _, _, rfl, _, rfl, _, _, _, _, _, rfl, hp, T.c_Course, T.n_Course_run, F_Course_run _, _, _, rfl, rfl, (by walk_at "mul"), _, _, rfl, rfl, _, rfl, _, _, _, _, _, rfl, hp, T.c_Course, T.n_Course_run, F_Course_run _, _, _, rfl, rfl, _, _, rfl, rfl, k⟩

def sp_C_window (K : PySem.W.Frag) : Sp := fun vs H Q _ => ∃ (p : Addr) (c : Crs) (x : Int), vs = [.ref p, .int x] ∧ CrsAt K H p c ∧ c.Sm ∧ 0 ≤ x ∧ x < c.h ∧ (c.e = 0 → c.each x ≤ 1) ∧ (c.e = 0 ∨ (c.e - 1) % c.m = 0 ∨ (c.e + 1) % c.m = 0) ∧
  ∀ q H', Same H H' → WinAt K H' q (if c.e = 0 then wn 1 0 (c.each x) else wn c.m (c.beg x) c.q) → Q (.ref q) H'
theorem sc_C_window : FnScope ["self", "house"] ["self", "house"] (C8.fnScope s_C_window) := C8.fnScope_by (by decide +kernel)
theorem met_C_window (T : Txt K mg) : C8.Met P w K mg base 6 (He.ga K "Course") "window" (sp_C_window K) [] := by
  refine met_mk T.c_Course T.m_C_window (T.D_C_window) (fun _ _ _ _ _ _ us hl => match us, hl with | [_, _], _ => rfl) sc_C_window (fun vs H Q E h => ?_) (fun cdv A outer s H vs Q E hr h => ?_)
  · obtain ⟨p, c, x, rfl, _⟩ := h
    rfl
  · obtain ⟨p, c, x, rfl, ⟨dx, hp⟩, sm, x0, xh, hrest, slow, k⟩ := h
    have bx : Bd 140 x := sm.bh.le x0 (Int.le_of_lt xh)
    refine ⟨_, (pss_cons (ps_expr (C8.pe_c (cal_need_below T) hr (by decide) rfl (pa_cons (pv 1) (pa_cons (pe_fld (pv 0) rfl) pa_nil))))
      (pss_cons (ps_if (pt_val (C8.pe_mt0 (met_C_is_resting T) hr (by decide) (pv 0))) (pss_one (ps_ret (C8.pe_mk (mak_Window T) hr (by decide) rfl (pa_cons pe_int (pa_cons pe_int (pa_cons (C8.pe_mt (met_C_visits T) hr (by decide) (pv 0) (pa_cons (pv 1) pa_nil)) pa_nil))))))
      pss_nil)
      (pss_cons (ps_if (pt_not (pt_val (C8.pe_mt0 (met_C_is_slow T) hr (by decide) (pv 0)))) (pss_one ps_never)
      pss_nil)
      (pss_one (ps_ret (C8.pe_mk (mak_Window T) hr (by decide) rfl (pa_cons (C8.pe_mt0 (met_C_marks T) hr (by decide) (pv 0)) (pa_cons (C8.pe_mt (met_C_begins T) hr (by decide) (pv 0) (pa_cons (pv 1) pa_nil)) (pa_cons (pe_fld (pv 0) rfl) pa_nil))))))))), ?_⟩
    refine ⟨_, rfl, _, rfl, _, _, _, _, _, rfl, hp, T.c_Course, T.n_Course_houses, F_Course_houses _, x, _, rfl, x0, xh, ?_⟩
    refine ⟨_, rfl, _, _, _, rfl, hp, rfl, _, c, rfl, ⟨_, hp⟩, sm, _, rfl, ite2 (fun h => ?_) (fun h => ?_)⟩
    · have e0 : c.e = 0 := of_decide_eq_true h
      refine ⟨_, rfl, _, _, _, rfl, hp, rfl, _, rfl, _, c, _, rfl, ⟨_, hp⟩, sm, bx, fun q dy nq ny ne => ?_⟩
      refine ⟨q, dy, 1, 0, c.each x, rfl, by decide, sm.ok.each0 x, hrest e0, upd_same, rfl, ?_⟩
      refine k q _ (same_made nq ny) ⟨dy, ?_⟩
      rw [if_pos e0]
      exact upd_same
    · have e0 : ¬ c.e = 0 := fun z => h (decide_eq_true z)
      have sl : (decide ((c.e - 1) % c.m = 0) || decide ((c.e + 1) % c.m = 0)) = true := by
        rcases slow with z | z | z
        · exact absurd z e0
        · rw [decide_eq_true z, Bool.true_or]
        · rw [decide_eq_true z, Bool.or_true]
      refine ⟨_, rfl, _, _, _, rfl, hp, rfl, _, c, rfl, ⟨_, hp⟩, sm, _, rfl, ?_⟩
      rw [sl]
      refine iteF ?_
      refine ⟨_, rfl, _, _, _, rfl, hp, rfl, _, c, rfl, ⟨_, hp⟩, sm, _, rfl, _, _, _, rfl, hp, rfl, _, rfl, _, c, _, rfl, ⟨_, hp⟩, sm, bx, _, rfl, _, _, _, _, _, rfl, hp, T.c_Course, T.n_Course_run, F_Course_run _, fun q dy nq ny ne => ?_⟩
      refine ⟨q, dy, c.m, c.beg x, c.q, rfl, sm.ok.m1, by have := sm.ok.q1; omega, sm.ok.qm, upd_same, rfl, ?_⟩
      refine k q _ (same_made nq ny) ⟨dy, ?_⟩
      rw [if_neg e0]
      exact upd_same
end
end K21

set_option Elab.async false
set_option linter.all false
set_option maxRecDepth 100000
set_option maxHeartbeats 4000000
set_option exponentiation.threshold 2000
/-! The walk: gaps. -/
namespace K21
open PySem PySem.Spec PyProof.Rows L2
local macro_rules | `(tactic| walk_at "pos") => `(tactic| first | assumption | ((with_reducible show (0 : Int) < _); first | assumption | omega | decide) | decide)
local macro_rules | `(tactic| walk_at "b") => `(tactic| (repeat' (first | ((with_reducible show Bd _ _); first | assumption | exact Bd.lit64 (by decide) | (refine' Bd.add ?_ ?_) | (refine' Bd.sub ?_ ?_) | (refine' Bd.mul ?_ ?_) | (refine' Bd.neg ?_) | (refine' Bd.div ?_ ?_) | (refine' Bd.mod ?_ ?_)) | ((with_reducible show (_ : Int) < _); first | assumption | omega))))
local macro_rules | `(tactic| walk_at "mul") => `(tactic| exact Bd.mulW (by walk_at "b") (by walk_at "b") (by decide))
local macro_rules | `(tactic| walk_at "div") => `(tactic| exact Bd.divW (by walk_at "pos") (by walk_at "b") (by decide))
def found3 (u w s z B : Int) : List (Int × Int) := [(u, B - s), (w, B - z), (u + w, s + z - B)]
theorem gapL_asc {u w s z B : Int} (ne : u ≠ w) (u1 : 1 ≤ u) (w1 : 1 ≤ w) : Asc (gapL u w s z B) := by
  unfold gapL Asc
  split <;> split <;> simp <;> omega
theorem gapL_mem {u w s z B : Int} (s1 : s ≤ B - 1) (z1 : z ≤ B - 1) (a : Int × Int) : a ∈ gapL u w s z B ↔ a ∈ (found3 u w s z B).filter (fun a => decide (0 < a.2)) := by
  obtain ⟨v, n⟩ := a
  rw [List.mem_filter]
  unfold gapL found3
  split <;> split <;> simp <;> omega
/-- sorted as pairs, no two equal firsts: ascending -/
theorem srtd_asc {k : V → Int × Int} {ys : List V} {L : List (Int × Int)} (h : SrtO.Srtd (ltP k) ys) (e : (ys.map k).Perm L) (nd : L.Pairwise (fun a b => a.1 ≠ b.1)) : Asc (ys.map k) := by
  have nd' : (ys.map k).Pairwise (fun a b => a.1 ≠ b.1) := (e.pairwise_iff (fun {a b} q => Ne.symm q)).mpr nd
  refine List.Pairwise.imp₂ (R := fun a b => SrtO.lexB b a = false) (S := fun a b => a.1 ≠ b.1) (fun a b p q => ?_) ?_ nd'
  · have := SrtO.lexB_no.mp p
    omega
  · exact List.pairwise_map.mpr h
section
variable {P : Program} {w : World} {K : PySem.W.Frag} {mg : Str → Option Value} {base : Heap}
def sp_C_gaps (K : PySem.W.Frag) : Sp := fun vs H Q _ => ∃ (p : Addr) (c : Crs) (x : Int), vs = [.ref p, .int x] ∧ CrsAt K H p c ∧ c.Sm ∧ 0 ≤ x ∧ x < c.h ∧ ∀ v H', Same H H' → GapRes K c x H' v → Q v H'
theorem sc_C_gaps : FnScope ["self", "house", "each", "turn", "pace", "up", "down", "higher", "lower", "found", "gap", "many"] ["self", "house"] (C8.fnScope s_C_gaps) := C8.fnScope_by (by decide +kernel)
theorem met_C_gaps (T : Txt K mg) : C8.Met P w K mg base 4 (He.ga K "Course") "gaps" (sp_C_gaps K) [] := by
  refine met_mk T.c_Course T.m_C_gaps (T.D_C_gaps) (fun _ _ _ _ _ _ us hl => match us, hl with | [_, _], _ => rfl) sc_C_gaps (fun vs H Q E h => ?_) (fun cdv A outer s H vs Q E hr h => ?_)
  · obtain ⟨p, c, x, rfl, _⟩ := h
    rfl
  · obtain ⟨p, c, x, rfl, ⟨dx, hp⟩, sm, x0, xh, k⟩ := h
    have bx : Bd 140 x := sm.bh.le x0 (Int.le_of_lt xh)
    have d1 : 0 < c.d := sm.ok.d1
    have M1 := sm.ok.M1
    have bd := sm.bd
    refine ⟨_, (pss_cons (ps_expr (C8.pe_c (cal_need_below T) hr (by decide) rfl (pa_cons (pv 1) (pa_cons (pe_fld (pv 0) rfl) pa_nil))))
      (pss_cons (ps_par (i := 2) (j := 3) (by rfl) sc_C_gaps.nd rfl rfl (by decide) rfl rfl (pa_cons (C8.pe_mt (met_C_visits T) hr (by decide) (pv 0) (pa_cons (pv 1) pa_nil)) (pa_cons (C8.pe_mt0 (met_C_turn T) hr (by decide) (pv 0)) pa_nil)) (by rfl))
      (pss_cons (ps_if (pt_cmpR op_eq (pv 2) pe_int (nomark _)) (pss_one (ps_ret pe_non))
      pss_nil)
      (pss_cons (ps_if (pt_cmpR op_eq (pv 2) pe_int (nomark _)) (pss_one (ps_ret (pe_tup (pa_cons (pe_tup (pa_cons (pv 3) (pa_cons pe_int pa_nil))) pa_nil))))
      pss_nil)
      (pss_cons (ps_set (i := 4) sc_C_gaps.nd rfl (Or.inl rfl) (pe_op op_fdivW (pe_fld (pv 0) rfl) (C8.pe_mt0 (met_C_spacing T) hr (by decide) (pv 0))))
      (pss_cons (ps_par (i := 5) (j := 6) (by rfl) sc_C_gaps.nd rfl rfl (by decide) rfl rfl (pa_cons (C8.pe_c (cal_first_in T) hr (by decide) rfl (pa_cons (pv 3) (pa_cons (pv 4) (pa_cons pe_int (pa_cons (pe_op op_sub (pv 2) pe_int) pa_nil))))) (pa_cons (C8.pe_c (cal_first_in T) hr (by decide) rfl (pa_cons (pv 3) (pa_cons (pe_un un_neg (pv 4)) (pa_cons pe_int (pa_cons (pe_op op_sub (pv 2) pe_int) pa_nil))))) pa_nil)) (by rfl))
      (pss_cons (ps_par (i := 7) (j := 8) (by rfl) sc_C_gaps.nd rfl rfl (by decide) rfl rfl (pa_cons (pe_op op_mod (pe_op op_mulW (pv 4) (pv 5)) (pv 3)) (pa_cons (pe_op op_mod (pe_op op_mulW (pe_un un_neg (pv 4)) (pv 6)) (pv 3)) pa_nil)) (by rfl))
      (pss_cons (ps_set (i := 9) sc_C_gaps.nd rfl (Or.inl rfl) (pe_lst (pa_cons (pe_tup (pa_cons (pv 5) (pa_cons (pe_op op_sub (pv 2) (pv 7)) pa_nil))) (pa_cons (pe_tup (pa_cons (pv 6) (pa_cons (pe_op op_sub (pv 2) (pv 8)) pa_nil))) (pa_cons (pe_tup (pa_cons (pe_op op_add (pv 5) (pv 6)) (pa_cons (pe_op op_sub (pe_op op_add (pv 7) (pv 8)) (pv 2)) pa_nil))) pa_nil)))))
      (pss_one (ps_ret (pe_callTy call_tuple_of (by rfl) T.f_tuple b_tuple (pa_cons (pe_callB cr_sortedPO (by rfl) T.f_sorted b_sorted (pa_cons (pe_lc (own := [("gap", 10), ("many", 11)]) (g := gTup _ 2 (gCons (gName 10) (gCons (gName 11) gNil))) rfl sc_C_gaps.nd (pi_list (pv 9)) (blkOk_by (N := ["self", "house", "each", "turn", "pace", "up", "down", "higher", "lower", "found", "gap", "many"]) (sc := C8.fnScope s_C_gaps) (by decide +kernel)) (fun _ _ _ _ _ => (pg_tup rfl (pgs_cons (pg_name (i := 10) sc_C_gaps.nd rfl (Or.inl rfl)) (pgs_cons (pg_name (i := 11) sc_C_gaps.nd rfl (Or.inl rfl)) pgs_nil)))) (fun _ _ _ _ _ => (pts_one (pt_cmpR op_gt (pv 11) pe_int (nomark _)))) (fun _ _ _ _ _ => (pe_tup (pa_cons (pv 10) (pa_cons (pv 11) pa_nil))))) pa_nil)) pa_nil)))))))))))), ?_⟩
    refine ⟨_, rfl, _, rfl, _, _, _, _, _, rfl, hp, T.c_Course, T.n_Course_houses, F_Course_houses _, x, _, rfl, x0, xh, ?_⟩
    refine ⟨_, rfl, _, _, _, rfl, hp, rfl, _, rfl, _, c, _, rfl, ⟨_, hp⟩, sm, bx, _, rfl, _, _, _, rfl, hp, rfl, _, c, rfl, ⟨_, hp⟩, sm, _, _, rfl, ?_⟩
    refine ⟨_, rfl, rfl, _, rfl, ite2 (fun h0 => ?_) (fun h0 => ?_)⟩
    · rw [dec_int0] at h0
      exact k _ _ (Same.refl H) (Or.inl ⟨of_decide_eq_true h0, rfl⟩)
    rw [dec_int0] at h0
    have e0 : ¬ c.each x = 0 := fun z => h0 (decide_eq_true z)
    have B0 := sm.ok.each0 x
    refine ⟨_, rfl, rfl, _, rfl, ite2 (fun h1 => ?_) (fun h1 => ?_)⟩
    · rw [dec_int0] at h1
      have e1 : c.each x = 1 := of_decide_eq_true h1
      refine ⟨_, rfl, by show 2 ≤ sizeLine; decide, fun p1 n1 => ⟨by show 1 ≤ sizeLine; decide, fun p2 n2 => ?_⟩⟩
      have e12 : p1 ≠ p2 := fun z => by rw [← z, upd_same] at n2; cases n2
      refine k _ _ ((Same.new n1).add n2) (Or.inr ⟨by omega, p2, _, [(c.M, 1)], rfl, upd_same, ?_, sm.ok.told1 e1⟩)
      exact Prs.nil.cons (by rw [upd_ne e12, upd_same])
    rw [dec_int0] at h1
    have B2 : 2 ≤ c.each x := by have : ¬ c.each x = 1 := fun z => h1 (decide_eq_true z); omega
    have half := sm.ok.half x B2
    have BM : c.each x - 1 < c.M := by omega
    have un := sm.ok.unit
    have bM : Bd 300 c.M := sm.bM.mono (by decide)
    have ask1 : Ask c.M (c.p % c.M) 1 (c.each x - 1) := by
      obtain ⟨t, ht⟩ := Rot.ask un B2 half
      exact ⟨M1, Int.emod_nonneg _ (by omega), Int.emod_lt_of_pos _ M1, by decide, by omega, BM, t, hit_mod.mpr ht⟩
    have ask2 : Ask c.M (-c.p % c.M) 1 (c.each x - 1) := by
      obtain ⟨t, ht⟩ := Rot.ask un.neg B2 half
      exact ⟨M1, Int.emod_nonneg _ (by omega), Int.emod_lt_of_pos _ M1, by decide, by omega, BM, t, hit_mod.mpr ht⟩
    refine ⟨_, rfl, _, _, _, _, _, rfl, hp, T.c_Course, T.n_Course_rise, F_Course_rise _, _, rfl, _, _, _, rfl, hp, rfl, _, c, rfl, ⟨_, hp⟩, sm, _, _, rfl, rfl, (by walk_at "div"), ?_⟩
    refine ⟨_, rfl, _, rfl, _, rfl, _, _, rfl, rfl, c.M, c.p, 1, _, rfl, ask1, bM, fun u H1 s1 lu => ?_⟩
    refine ⟨_, rfl, _, rfl, _, rfl, _, rfl, _, _, rfl, rfl, c.M, -c.p, 1, _, rfl, ask2, bM, fun v H2 s2 lv => ⟨_, _, rfl, ?_⟩⟩
    have ud : c.Ud x u v := ⟨sm.ok, B2, lu, lv⟩
    have R := ud.rot
    have bp : Bd 280 (c.e / c.d) := sm.be.div d1
    have bu : Bd 280 u := sm.bM.le lu.1.1 (Int.le_of_lt R.uM)
    have bv : Bd 280 v := sm.bM.le lv.1.1 (Int.le_of_lt R.wM)
    refine ⟨_, rfl, _, rfl, _, _, rfl, rfl, (by walk_at "mul"), _, rfl, _, _, rfl, rfl, (by walk_at "pos"), _, rfl, _, rfl, _, rfl, _, _, rfl, rfl, (by walk_at "mul"), _, rfl, _, _, rfl, rfl, (by walk_at "pos"), _, _, rfl, ?_⟩
    have told := ud.told
    have zz : -(c.e / c.d) * v % c.M = -c.p * v % c.M := rfl
    refine ⟨_, rfl, _, rfl, _, rfl, _, _, rfl, rfl, by show 2 ≤ sizeLine; decide, fun t1 n1 => ?_⟩
    refine ⟨_, rfl, _, rfl, _, rfl, _, _, rfl, rfl, by show 2 ≤ sizeLine; decide, fun t2 n2 => ?_⟩
    refine ⟨_, rfl, _, rfl, _, _, rfl, rfl, _, rfl, _, rfl, _, _, rfl, rfl, _, rfl, _, _, rfl, rfl, by show 2 ≤ sizeLine; decide, fun t3 n3 => ?_⟩
    refine ⟨by show 3 ≤ sizeLine; decide, fun l nl => ?_⟩
    generalize hH3 : upd (upd (upd H2 t1 _) t2 _) t3 _ = H3 at nl ⊢
    have t12 : t1 ≠ t2 := fun z => by rw [← z, upd_same] at n2; cases n2
    have t13 : t1 ≠ t3 := fun z => by rw [← z, upd_ne t12, upd_same] at n3; cases n3
    have t23 : t2 ≠ t3 := fun z => by rw [← z, upd_same] at n3; cases n3
    have p3 : Prs H3 [.ref t1, .ref t2, .ref t3] (found3 u v (c.p * u % c.M) (-c.p * v % c.M) (c.each x)) := by
      rw [← hH3]
      exact ((Prs.nil.cons (by rw [upd_same] <;> rfl)).cons (by rw [upd_ne t23, upd_same] <;> rfl)).cons (by rw [upd_ne t13, upd_ne t12, upd_same] <;> rfl)
    have s3 : Same H H3 := by
      rw [← hH3]
      exact (((s1.trans s2).add n1).add n2).add n3
    clear hH3 n1 n2 n3
    have bs := R.s1
    have bz := R.z1
    have hmem := fun a => gapL_mem (u := u) (w := v) (s := c.p * u % c.M) (z := -c.p * v % c.M) (B := c.each x) bs.2 bz.2 a
    have hasc := gapL_asc (s := c.p * u % c.M) (z := -c.p * v % c.M) (B := c.each x) R.ne R.u1 R.w1
    have hnd : (found3 u v (c.p * u % c.M) (-c.p * v % c.M) (c.each x)).Pairwise (fun a b => a.1 ≠ b.1) := by
      have := R.ne
      have := R.u1
      have := R.w1
      unfold found3
      simp
      omega
    have hlen : (found3 u v (c.p * u % c.M) (-c.p * v % c.M) (c.each x)).length = 3 := rfl
    generalize found3 u v (c.p * u % c.M) (-c.p * v % c.M) (c.each x) = F3 at *
    refine ⟨_, rfl, l, rfl, ⟨_, SqL.of upd_same⟩, fun D nD => ?_⟩
    refine lc_list (K := K) (a := l) (xs := [.ref t1, .ref t2, .ref t3]) (fun i H' => Same (upd H3 l (.lst [.ref t1, .ref t2, .ref t3])) H' ∧ ∃ acc, H' D = some (.lst acc) ∧ Prs H' acc ((F3.take i).filter (fun a => decide (0 < a.2))))
      ⟨Same.new nD, [], upd_same, Prs.nil⟩ (fun i H' _ q => q.1.seq (SqL.of upd_same)) ?_ ?_
    · rintro i y H' hy ⟨s4, acc, hacc, pa⟩
      obtain ⟨t, a, ea, rfl, ht⟩ := p3.get hy
      have ht' : H' t = some (.tup [.int a.1, .int a.2]) := s4 _ _ (Same.new nl _ _ ht)
      refine ⟨t, _, rfl, SqT.of ht', rfl, _, _, rfl, _, _, rfl, rfl, rfl, ?_⟩
      refine ⟨_, rfl, _, _, rfl, rfl, _, rfl, ite2 (fun g => ?_) (fun g => ?_)⟩
      · refine ⟨_, rfl, _, rfl, by show 2 ≤ sizeLine; decide, fun q nq => ⟨acc, ?_, ?_, ?_, acc ++ [.ref q], upd_same, ?_⟩⟩
        · rw [upd_ne (ne_of_none hacc nq)]
          exact hacc
        · have l1 := pa.len
          have l2 := List.length_filter_le (fun a : Int × Int => decide (0 < a.2)) (F3.take i)
          have l3 : (F3.take i).length ≤ 3 := by rw [List.length_take]; omega
          exact Nat.lt_of_le_of_lt (show acc.length ≤ 3 by omega) (by decide)
        · exact Same.mut (s4.add nq) nD
        · rw [take_succ_get ea, List.filter_append, List.filter_cons, if_pos g, List.filter_nil]
          have nDq : D ≠ q := ne_of_none hacc nq
          refine (pa.mono fun b ys e => ?_).snoc ?_
          · rw [upd_ne (ne_of e hacc (fun z => by cases z)), upd_ne (ne_of_none e nq)]
            exact e
          · rw [upd_ne nDq.symm, upd_same]
      · refine ⟨s4, acc, hacc, ?_⟩
        rw [take_succ_get ea, List.filter_append, List.filter_cons, if_neg g, List.filter_nil, List.append_nil]
        exact pa
    · rintro H' ⟨s4, acc, hacc, pa⟩
      rw [List.take_of_length_le (by show F3.length ≤ 3; omega)] at pa
      refine ⟨D, acc, pairOf H', rfl, SqL.of hacc, fun y hy => ?_, fun ys q so st nq => ?_⟩
      · obtain ⟨t, i, j, rfl, ht⟩ := pa.1 y hy
        exact ⟨t, rfl, by rw [pairOf_at ht]; exact ht⟩
      · refine ⟨q, ys, rfl, Or.inl ⟨SqL.of upd_same, fun g ng => ?_⟩⟩
        have pm : (ys.map (pairOf H')).Perm (F3.filter (fun a => decide (0 < a.2))) := by
          rw [← pa.2]
          exact st.perm.map _
        have ey : ys.map (pairOf H') = gapL u v (c.p * u % c.M) (-c.p * v % c.M) (c.each x) :=
          asc_ext (srtd_asc so pm (hnd.sublist List.filter_sublist)) hasc fun a => by rw [hmem a]; exact pm.mem_iff
        have py : Prs H' ys (gapL u v (c.p * u % c.M) (-c.p * v % c.M) (c.each x)) := ⟨fun y hy => pa.1 y (st.perm.mem_iff.mp hy), ey⟩
        refine k (.ref g) _ ?_ (Or.inr ⟨by omega, g, ys, _, rfl, upd_same, py.mono fun b zs e => ?_, told⟩)
        · exact (((s3.add nl).trans s4).add nq).add ng
        · rw [upd_ne (ne_of_none (Same.new nq _ _ e) ng)]
          exact Same.new nq _ _ e
end
end K21

set_option Elab.async false
set_option linter.all false
set_option maxRecDepth 100000
set_option maxHeartbeats 4000000
set_option exponentiation.threshold 2000
/-! The walk: the law's tape. -/
namespace K21
open PySem PySem.Spec PyProof.Rows L2
local macro_rules | `(tactic| walk_at "pos") => `(tactic| first | assumption | ((with_reducible show (0 : Int) < _); first | assumption | omega | decide) | decide)
local macro_rules | `(tactic| walk_at "b") => `(tactic| (repeat' (first | ((with_reducible show Bd _ _); first | assumption | exact Bd.lit64 (by decide) | (refine' Bd.add ?_ ?_) | (refine' Bd.sub ?_ ?_) | (refine' Bd.mul ?_ ?_) | (refine' Bd.neg ?_) | (refine' Bd.div ?_ ?_) | (refine' Bd.mod ?_ ?_)) | ((with_reducible show (_ : Int) < _); first | assumption | omega))))
local macro_rules | `(tactic| walk_at "mul") => `(tactic| exact Bd.mulW (by walk_at "b") (by walk_at "b") (by decide))
local macro_rules | `(tactic| walk_at "div") => `(tactic| exact Bd.divW (by walk_at "pos") (by walk_at "b") (by decide))
local macro_rules | `(tactic| walk_at "pow") => `(tactic| first | exact ⟨by decide, by decide, by decide⟩ | exact ⟨by decide, by decide, by omega⟩)
/-! ### rules -/
section
variable {X : Cx}
theorem call_intI : CallR X (.type "int") (fun xs H Q => ∃ i, xs = [.int i] ∧ Q (.int i) H) := fun pins s σ H xs us Q I r h => call_int1 pins s σ H xs us Q I r (Or.inl h)
theorem call_intB : CallR X (.type "int") (fun xs H Q => ∃ k, xs = [.bl k] ∧ Q (.int (if k = true then 1 else 0)) H) := fun pins s σ H xs us Q I r h => call_int1 pins s σ H xs us Q I r (Or.inr h)
theorem set_dict (hu : X.A.units + 1 < cLine) : PSet X (fun o i v H Q => ∃ a H', o = V.ref a ∧ DPut H a i v H' ∧ Q H') := by
  intro pins s σ H o i v ov iv u Q I ro ri rv h
  obtain ⟨a, H', rfl, g, q⟩ := h
  cases ro
  exact d_setItem hu I g ri rv fun s' I' => ⟨H', I', q⟩
theorem op_mulS : OpR X (binaryOp .Mult) (fun x y H Q => ∃ (z : Str) (i : Int), x = .str z ∧ y = .int i ∧ z.length ≤ 16 ∧ 0 ≤ i ∧ i ≤ 1000 ∧ Q (.str (Txt.mul z i)) H) := by
  intro pins s σ H x y v u Q I rx ry h
  obtain ⟨z, i, rfl, rfl, hz, h0, h1, q⟩ := h
  obtain ⟨t, rfl⟩ := rx
  obtain ⟨t2, rfl⟩ := ry
  exact SB.mul (PyProof.Rows.mulOk_of 16 1048576 hz (by omega) (by omega) (by decide) (by decide)) fun t' k => ⟨.str _, H, I.tok _, ⟨_, rfl⟩, q⟩
end

/-! ### the tape -/
def tapeO (c : Addr) (a r : Int) : List (Key × V) := [(.inr "cells", .ref c), (.inr "at", .int a), (.inr "rest", .int r)]
def SameX (d : Addr) (H H' : Hp) : Prop := ∀ b o, b ≠ d → H b = some o → H' b = some o
theorem SameX.refl (d : Addr) (H : Hp) : SameX d H H := fun _ _ _ h => h
theorem SameX.trans {d : Addr} {H H1 H2 : Hp} (a : SameX d H H1) (b : SameX d H1 H2) : SameX d H H2 := fun c o n h => b c o n (a c o n h)
theorem SameX.of {d : Addr} {H H' : Hp} (h : Same H H') : SameX d H H' := fun b o _ e => h b o e
theorem SameX.put {d : Addr} {H H' : Hp} {o : HO} (h : SameX d H H') : SameX d H (upd H' d o) := fun b u n e => by
  rw [upd_ne n]
  exact h b u n e
theorem SameX.new {d p : Addr} {H H' : Hp} {o : HO} (h : SameX d H H') (n : H' p = none) : SameX d H (upd H' p o) := h.trans (.of (Same.new n))
structure Tape (H : Hp) (d : Addr) (n : Nat) : Prop where
  ex : ∃ (c : Addr) (a r : Int) (xs : List Int), H d = some (.dK (tapeO c a r)) ∧ H c = some (.lst (xs.map V.int)) ∧ 1 ≤ xs.length ∧ xs.length ≤ 64 ∧ 0 ≤ a ∧ a ≤ n ∧ 0 ≤ r
theorem Tape.mono {H : Hp} {d : Addr} {n m : Nat} (h : Tape H d n) (l : n ≤ m) : Tape H d m := by
  obtain ⟨c, a, r, xs, h1, h2, h3, h4, h5, h6, h7⟩ := h.ex
  exact ⟨c, a, r, xs, h1, h2, h3, h4, h5, by omega, h7⟩
theorem Tape.same {H H' : Hp} {d : Addr} {n : Nat} (h : Tape H d n) (s : Same H H') : Tape H' d n := by
  obtain ⟨c, a, r, xs, h1, h2, h3⟩ := h.ex
  exact ⟨c, a, r, xs, s _ _ h1, s _ _ h2, h3⟩
section
variable {H : Hp} {d c : Addr} {a r : Int}
theorem tape_at (h : H d = some (.dK (tapeO c a r))) : DGet H d (.str "at") (some (.int a)) := .inl ⟨_, .inr "at", .inl h, rfl, rfl⟩
theorem tape_rest (h : H d = some (.dK (tapeO c a r))) : DGet H d (.str "rest") (some (.int r)) := .inl ⟨_, .inr "rest", .inl h, rfl, rfl⟩
theorem tape_cells (h : H d = some (.dK (tapeO c a r))) : DGet H d (.str "cells") (some (.ref c)) := .inl ⟨_, .inr "cells", .inl h, rfl, rfl⟩
theorem put_at {v : Int} (h : H d = some (.dK (tapeO c a r))) : DPut H d (.str "at") (.int v) (upd H d (.dK (tapeO c v r))) := .inl ⟨_, .inr "at", h, rfl, by show 3 < sizeLine; decide, rfl⟩
theorem put_rest {v : Int} (h : H d = some (.dK (tapeO c a r))) : DPut H d (.str "rest") (.int v) (upd H d (.dK (tapeO c a v))) := .inl ⟨_, .inr "rest", h, rfl, by show 3 < sizeLine; decide, rfl⟩
end
theorem bd60 {a : Int} {n : Nat} (h0 : 0 ≤ a) (h1 : a ≤ n) (hn : n ≤ 1000000) : Bd 60 a := by
  unfold Bd
  have : (1000000 : Nat) < 2 ^ 60 := by decide
  omega

section
variable {P : Program} {w : World} {K : PySem.W.Frag} {mg : Str → Option Value} {base : Heap}
theorem cut_ints (ns : List Int) : cutV (ns.map V.int) none (some 63) = (ns.take 63).map V.int := by
  unfold cutV
  rw [HT.sIx_none, List.drop_zero, Nat.sub_zero]
  have e : HT.sIx (ns.map V.int).length (ns.map V.int).length (some 63) = min 63 (ns.map V.int).length := rfl
  rw [e, List.map_take, ← List.take_eq_take_min]
def sp_L_begin (K : PySem.W.Frag) : Sp := fun vs H Q _ => ∃ (a : Addr) (ns : List Int), vs = [.ref a] ∧ SqL K H a (ns.map V.int) ∧ ∀ d H', Same H H' → H d = none → Tape H' d 0 → Q (.ref d) H'
theorem sc_L_begin : FnScope ["_law_script"] ["_law_script"] (C8.fnScope s_L_begin) := C8.fnScope_by (by decide +kernel)
theorem cal_L_begin (T : Txt K mg) : C8.Cal P w K mg base 1 "_law_begin" (sp_L_begin K) [] := by
  refine cal_mk (T.D_L_begin) (T.g_L_begin) (fun _ _ _ _ _ _ us hl => match us, hl with | [_], _ => rfl) sc_L_begin (fun vs H Q E h => ?_) (fun cdv A outer s H vs Q E hr h => ?_)
  · obtain ⟨a, ns, rfl, _⟩ := h
    rfl
  · obtain ⟨a, ns, rfl, hS, k⟩ := h
    refine ⟨_, (pss_one (ps_ret (pe_disp (pps_cons pe_str (pe_op op_cat (pe_callTy call_list_of (by rfl) T.f_list b_list (pa_cons (pe_slice sl_list (pv 0) po_none (po_some pe_int)) pa_nil)) (pe_op op_rep (pe_lst (pa_cons pe_int pa_nil)) (pe_callTy call_intB (by rfl) T.f_int b_int (pa_cons (pe_cmpR op_eq (pe_callB call_len_seq (by rfl) T.f_len b_len (pa_cons (pv 0) pa_nil)) pe_int (nomark _)) pa_nil)))) (pps_cons pe_str pe_int (pps_cons pe_str pe_int pps_nil))) (by rfl) (by rfl) (fun z => by cases z) (by decide)))), ?_⟩
    refine fun p np => ?_
    have S1 : Same H (upd H p (.dK [])) := Same.new np
    refine ⟨_, rfl, _, rfl, a, _, rfl, S1.seq hS, fun p1 n1 => ?_⟩
    refine ⟨p1, _, rfl, Or.inl (SqL.of upd_same), fun l1 m1 => ?_⟩
    refine ⟨by show 1 ≤ sizeLine; decide, fun l2 m2 => ?_⟩
    have S2 := ((S1.add n1).add m1).add (o := .lst [.int 0]) m2
    refine ⟨_, rfl, a, _, rfl, Or.inl (S2.seq hS), rfl, _, rfl, ?_⟩
    have bk : (if decide (V.int ((ns.map V.int).length : Int) = V.int 0) = true then (1 : Int) else 0) = if ns.length = 0 then 1 else 0 := by
      rw [List.length_map]
      by_cases z : ns.length = 0 <;> simp [z]
    refine ⟨l2, _, [.int 0], rfl, rfl, upd_same, by rw [bk]; split <;> decide, by rw [bk]; split <;> decide, by rw [bk]; split <;> decide, fun l3 m3 => ?_⟩
    have e12 : l1 ≠ l2 := fun z => by rw [← z, upd_same] at m2; cases m2
    have e13 : l1 ≠ l3 := fun z => by rw [← z, upd_ne e12, upd_same] at m3; cases m3
    have L1 : (cutV (ns.map V.int) none (some 63)).length ≤ 63 := by rw [cut_ints, List.length_map, List.length_take]; omega
    refine ⟨l1, l3, _, _, rfl, rfl, by rw [upd_ne e13, upd_ne e12, upd_same], upd_same, ?_, fun l4 m4 => ?_⟩
    · rw [bk]
      refine Nat.le_trans (?_ : _ ≤ 64) (by decide)
      split
      · show _ + 1 ≤ 64
        omega
      · show _ + 0 ≤ 64
        omega
    have hx : ∃ xs : List Int, cutV (ns.map V.int) none (some 63) ++ (List.replicate (if decide (V.int ((ns.map V.int).length : Int) = V.int 0) = true then (1 : Int) else 0).toNat [V.int 0]).flatten = xs.map V.int ∧ 1 ≤ xs.length ∧ xs.length ≤ 64 := by
      rw [bk, cut_ints]
      by_cases z : ns.length = 0
      · rw [if_pos z]
        refine ⟨ns.take 63 ++ [0], ?_, ?_, ?_⟩
        · rw [List.map_append]
          rfl
        · rw [List.length_append]
          show 1 ≤ _ + 1
          omega
        · rw [List.length_append, List.length_take]
          show _ + 1 ≤ 64
          omega
      · rw [if_neg z]
        refine ⟨ns.take 63, ?_, ?_, ?_⟩
        · show (ns.take 63).map V.int ++ [] = _
          rw [List.append_nil]
        · rw [List.length_take]
          omega
        · rw [List.length_take]
          omega
    obtain ⟨xs, ex, x1, x2⟩ := hx
    have npl : p ≠ l4 := by
      refine ne_of_none (o := .dK []) ?_ m4
      exact Same.new m3 _ _ (Same.new m2 _ _ (Same.new m1 _ _ (Same.new n1 _ _ upd_same)))
    refine ⟨Same.new m4 _ _ (Same.new m3 _ _ (Same.new m2 _ _ (Same.new m1 _ _ (Same.new n1 _ _ upd_same)))), [(.inr "cells", .ref l4), (.inr "at", .int 0), (.inr "rest", .int 0)], rfl, by show 3 ≤ 15; decide, ?_⟩
    refine k p _ (Same.mut ?_ np) np ⟨l4, 0, 0, xs, upd_same, by rw [upd_ne npl.symm]; exact upd_same.trans (congrArg (fun z => some (HO.lst z)) ex), x1, x2, by decide, by decide, by decide⟩
    exact (S2.add m3).add m4

def sp_L_draw : Sp := fun vs H Q _ => ∃ (d : Addr) (lim : Int) (n : Nat), vs = [.ref d, .int lim] ∧ Tape H d n ∧ n ≤ 1000000 ∧ 0 < lim ∧ Bd 64 lim ∧
  ∀ r H', 0 ≤ r → r < lim → SameX d H H' → Tape H' d (n + 1) → Q (.int r) H'
theorem sc_L_draw : FnScope ["_law_tape", "_law_limit", "_law_at", "_law_span", "_law_cell", "_law_mixed", "_law_found"] ["_law_tape", "_law_limit"] (C8.fnScope s_L_draw) := C8.fnScope_by (by decide +kernel)
theorem cal_L_draw (T : Txt K mg) : C8.Cal P w K mg base 1 "_law_draw" sp_L_draw [] := by
  refine cal_mk (T.D_L_draw) (T.g_L_draw) (fun _ _ _ _ _ _ us hl => match us, hl with | [_, _], _ => rfl) sc_L_draw (fun vs H Q E h => ?_) (fun cdv A outer s H vs Q E hr h => ?_)
  · obtain ⟨d, lim, n, rfl, _⟩ := h
    rfl
  · obtain ⟨d, lim, n, rfl, tp, nn, lim0, blim, k⟩ := h
    obtain ⟨c, a, r, xs, hd, hc, x1, x2, a0, a1, r0⟩ := tp.ex
    have cd : c ≠ d := ne_of hc hd (fun z => by cases z)
    have ba := bd60 a0 a1 nn
    have ba6 : Bd 64 a := ba.mono (by decide)
    refine ⟨_, (C8.pss_cut (ps_if (pt_cmpR op_lt (pe_dget (hu_of hr) (pv 0) pe_str (fun _ _ => rfl)) (pv 1) (nomark _)) (pss_cons (ps_par (i := 2) (j := 3) (by rfl) sc_L_draw.nd rfl rfl (by decide) rfl rfl (pa_cons (pe_dget (hu_of hr) (pv 0) pe_str (fun _ _ => rfl)) (pa_cons (pe_callB call_len_seq (by rfl) T.f_len b_len (pa_cons (pe_dget (hu_of hr) (pv 0) pe_str (fun _ _ => rfl)) pa_nil)) pa_nil)) (by rfl))
      (pss_cons (ps_asg (pe_tup (pa_cons (pe_ix ix_list (pe_dget (hu_of hr) (pv 0) pe_str (fun _ _ => rfl)) (pe_op op_mod (pe_callTy call_intI (by rfl) T.f_int b_int (pa_cons (pv 2) pa_nil)) (pv 3)) (fun _ _ => rfl)) (pa_cons (pe_op op_add (pv 2) pe_int) pa_nil))) (pg_tup rfl (pgs_cons (pg_name (i := 4) sc_L_draw.nd rfl (Or.inl rfl)) (pgs_cons (pg_sub (pv 0) pe_str (set_dict (hu_of hr))) pgs_nil))))
      (pss_cons (ps_set (i := 5) sc_L_draw.nd rfl (Or.inl rfl) (pe_op op_add (pe_op op_add (pe_op op_mul (pe_callTy call_intI (by rfl) T.f_int b_int (pa_cons (pv 4) pa_nil)) pe_int) (pe_op op_mulW (pe_op op_mulW pe_int (pv 2)) (pv 2))) pe_int))
      (pss_cons (ps_set (i := 5) sc_L_draw.nd rfl (Or.inl rfl) (pe_op op_mod (pe_callTy call_intI (by rfl) T.f_int b_int (pa_cons (pv 5) pa_nil)) pe_int))
      (pss_cons (ps_dput (hu_of hr) (pv 0) pe_str (pe_op op_mod (pe_callTy call_intI (by rfl) T.f_int b_int (pa_cons (pe_op op_add (pe_op op_pow (pv 5) pe_int) (pe_op op_mulW (pe_op op_mulW (pe_op op_mulW pe_int (pv 2)) (pv 5)) (pv 5))) pa_nil)) (pe_op op_add (pe_op op_pow pe_int pe_int) pe_int)) rfl)
      (pss_one (ps_if (PW.pt (pw_and (pt_cmpR op_ge (pv 4) (pe_op op_pow pe_int pe_int) (nomark _)) (pw_and1 (pt_cmpR op_lt (pv 2) (pv 3) (nomark _))))) (pss_one (ps_dput (hu_of hr) (pv 0) pe_str (pe_op op_sub (pv 4) (pe_op op_pow pe_int pe_int)) rfl))
      pss_nil)))))))
      pss_nil)
      (pss_cons (ps_asg (pe_tup (pa_cons (pe_op op_mod (pe_callTy call_intI (by rfl) T.f_int b_int (pa_cons (pe_dget (hu_of hr) (pv 0) pe_str (fun _ _ => rfl)) pa_nil)) (pv 1)) (pa_cons (pe_op op_fdivW (pe_dget (hu_of hr) (pv 0) pe_str (fun _ _ => rfl)) (pv 1)) pa_nil))) (pg_tup rfl (pgs_cons (pg_name (i := 6) sc_L_draw.nd rfl (Or.inl rfl)) (pgs_cons (pg_sub (pv 0) pe_str (set_dict (hu_of hr))) pgs_nil))))
      (pss_one (ps_ret (pv 6))))), ?_⟩
    refine ⟨fun σ H' => ∃ (v1 v2 v3 v4 : Option V) (a' r' : Int), σ = [some (.ref d), some (.int lim), v1, v2, v3, v4, none] ∧ SameX d H H' ∧ H' d = some (.dK (tapeO c a' r')) ∧ H' c = some (.lst (xs.map V.int)) ∧ 0 ≤ a' ∧ a' ≤ (n + 1 : Nat) ∧ 0 ≤ r', ?_, ?_⟩
    · refine ⟨_, rfl, _, _, rfl, tape_rest hd, _, rfl, _, _, rfl, rfl, _, rfl, ite2 (fun h => ?_) (fun h => ?_)⟩
      · refine ⟨_, rfl, _, _, rfl, tape_at hd, _, rfl, _, _, rfl, tape_cells hd, c, _, rfl, Or.inl (SqL.of hc), _, _, rfl, ?_⟩
        rw [List.length_map]
        have s0 : (0 : Int) < (xs.length : Int) := by omega
        refine ⟨_, rfl, _, _, rfl, tape_cells hd, _, rfl, _, rfl, _, rfl, _, _, rfl, rfl, (by walk_at "pos"), ?_⟩
        obtain ⟨y, hy⟩ : ∃ y, xs[(a % (xs.length : Int)).toNat]? = some y := by
          refine ⟨_, List.getElem?_eq_getElem ?_⟩
          have := Int.emod_lt_of_pos a s0
          have := Int.emod_nonneg a (Int.ne_of_gt s0)
          omega
        have hy2 : atI (xs.map V.int) (a % (xs.length : Int)) = some (.int y) := by
          have e : a % (xs.length : Int) = ((a % (xs.length : Int)).toNat : Int) := (Int.toNat_of_nonneg (Int.emod_nonneg a (Int.ne_of_gt s0))).symm
          rw [e]
          refine atI_nat ?_
          rw [List.getElem?_map, hy]
          rfl
        refine ⟨c, _, _, _, rfl, rfl, SqL.of hc, hy2, ?_⟩
        refine ⟨_, rfl, _, _, rfl, rfl, by show 2 ≤ sizeLine; decide, fun t nt => ?_⟩
        have dt : d ≠ t := ne_of_none hd nt
        have hd1 : upd H t (.tup [.int y, .int (a + 1)]) d = some (.dK (tapeO c a r)) := by rw [upd_ne dt]; exact hd
        refine ⟨t, _, rfl, SqT.of upd_same, rfl, _, _, rfl, _, _, rfl, _, rfl, d, _, rfl, put_at hd1, rfl, ?_⟩
        have sx1 : SameX d H (upd (upd H t (.tup [.int y, .int (a + 1)])) d (.dK (tapeO c (a + 1) r))) := ((SameX.refl d H).new nt).put
        have hd2 : upd (upd H t (.tup [.int y, .int (a + 1)])) d (.dK (tapeO c (a + 1) r)) d = some (.dK (tapeO c (a + 1) r)) := upd_same
        have hc1 : upd (upd H t (.tup [.int y, .int (a + 1)])) d (.dK (tapeO c (a + 1) r)) c = some (.lst (xs.map V.int)) := by
          rw [upd_ne cd, upd_ne (ne_of_none hc nt)]
          exact hc
        generalize upd (upd H t (.tup [.int y, .int (a + 1)])) d (.dK (tapeO c (a + 1) r)) = H1 at sx1 hd2 hc1 ⊢
        refine ⟨_, rfl, _, rfl, _, _, rfl, rfl, (Or.inr ⟨by decide, by decide⟩), _, rfl, _, _, rfl, rfl, (by walk_at "mul"), _, rfl, _, _, rfl, rfl, (by walk_at "mul"), _, _, rfl, rfl, _, _, rfl, rfl, ?_⟩
        refine ⟨_, rfl, _, rfl, _, _, rfl, rfl, (by walk_at "pos"), ?_⟩
        have bm : Bd 64 ((y * 982451653 + 32452843 * a * a + 961748941) % 2305843009213693907) := Bd.mod (Bd.lit64 (by decide)) (by decide)
        have mp : (((y * 982451653 + 32452843 * a * a + 961748941) % 2305843009213693907)).natAbs < 2 ^ 64 := bm
        have p9 : (0 : Int) < (10 : Int) ^ (47 : Int).toNat + 9 := by decide
        refine ⟨_, rfl, _, _, rfl, rfl, (by walk_at "pow"), _, rfl, _, _, rfl, rfl, (by walk_at "mul"), _, rfl, _, _, rfl, rfl, (by walk_at "mul"), _, rfl, _, _, rfl, rfl, (by walk_at "mul"), _, _, rfl, rfl, _, rfl, _, _, rfl, rfl, (by walk_at "pow"), _, _, rfl, rfl, _, _, rfl, rfl, p9, _, rfl, _, _, rfl, put_rest hd2, ?_⟩
        refine ⟨_, rfl, _, _, rfl, rfl, (by walk_at "pow"), _, _, rfl, rfl, _, rfl, ite2 (fun g1 => ?_) (fun g1 => ?_)⟩
        · refine ⟨_, rfl, _, rfl, _, _, rfl, rfl, _, rfl, ite2 (fun g2 => ?_) (fun g2 => ?_)⟩
          · refine ⟨_, rfl, _, _, rfl, rfl, (by walk_at "pow"), _, _, rfl, rfl, _, rfl, _, _, rfl, put_rest upd_same, ?_⟩
            refine ⟨_, _, _, _, a + 1, _, rfl, sx1.put.put, upd_same, ?_, by omega, by omega, ?_⟩
            · rw [upd_ne cd, upd_ne cd]
              exact hc1
            · have : (10 : Int) ^ (18 : Int).toNat ≤ y := of_decide_eq_true g1
              omega
          · exact ⟨_, _, _, _, a + 1, _, rfl, sx1.put, upd_same, by rw [upd_ne cd]; exact hc1, by omega, by omega, Int.emod_nonneg _ (Int.ne_of_gt p9)⟩
        · exact ⟨_, _, _, _, a + 1, _, rfl, sx1.put, upd_same, by rw [upd_ne cd]; exact hc1, by omega, by omega, Int.emod_nonneg _ (Int.ne_of_gt p9)⟩
      · exact ⟨none, none, none, none, a, r, rfl, SameX.refl d H, hd, hc, a0, by omega, r0⟩
    · rintro σ H' ⟨v1, v2, v3, v4, a', r', rfl, sx, hd, hc, a0', a1', r0'⟩
      refine ⟨_, rfl, _, _, rfl, tape_rest hd, _, rfl, _, rfl, _, _, rfl, rfl, (by walk_at "pos"), _, rfl, _, _, rfl, tape_rest hd, _, rfl, _, _, rfl, rfl, (by walk_at "div"), by show 2 ≤ sizeLine; decide, fun t nt => ?_⟩
      have sx2 := sx.new (o := .tup [.int (r' % lim), .int (r' / lim)]) nt
      have hd4 : upd H' t (.tup [.int (r' % lim), .int (r' / lim)]) d = some (.dK (tapeO c a' r')) := by rw [upd_ne (ne_of_none hd nt)]; exact hd
      refine ⟨t, _, rfl, SqT.of upd_same, rfl, _, _, rfl, _, _, rfl, _, rfl, d, _, rfl, put_rest hd4, rfl, ?_⟩
      refine ⟨_, rfl, ?_⟩
      refine k _ _ (Int.emod_nonneg _ (by omega)) (Int.emod_lt_of_pos _ lim0) sx2.put ⟨c, a', r' / lim, xs, upd_same, ?_, x1, x2, a0', a1', Int.ediv_nonneg r0' (by omega)⟩
      rw [upd_ne cd, upd_ne (ne_of_none hc nt)]
      exact hc
end
end K21

set_option Elab.async false
set_option linter.all false
set_option maxRecDepth 100000
set_option maxHeartbeats 4000000
set_option exponentiation.threshold 2000
/-! The walk: what the law draws. -/
namespace K21
open PySem PySem.Spec PyProof.Rows L2
local macro_rules | `(tactic| walk_at "pos") => `(tactic| first | assumption | ((with_reducible show (0 : Int) < _); first | assumption | omega | decide) | decide)
local macro_rules | `(tactic| walk_at "b") => `(tactic| (repeat' (first | ((with_reducible show Bd _ _); first | assumption | exact Bd.lit64 (by decide) | (refine' Bd.add ?_ ?_) | (refine' Bd.sub ?_ ?_) | (refine' Bd.mul ?_ ?_) | (refine' Bd.neg ?_) | (refine' Bd.div ?_ ?_) | (refine' Bd.mod ?_ ?_)) | ((with_reducible show (_ : Int) < _); first | assumption | omega))))
local macro_rules | `(tactic| walk_at "mul") => `(tactic| exact Bd.mulW (by walk_at "b") (by walk_at "b") (by decide))
local macro_rules | `(tactic| walk_at "div") => `(tactic| exact Bd.divW (by walk_at "pos") (by walk_at "b") (by decide))
theorem ten_pos (f : Nat) : (0 : Int) < 10 ^ f := Int.pow_pos (by decide)
theorem ten_text : ∀ f : Fin 61, PySem.intText? ("1" ++ Txt.mul "0" ((f.val : Nat) : Int)) = some (10 ^ f.val) ∧ (("1" : Str) ++ Txt.mul "0" ((f.val : Nat) : Int)).length ≤ 640 ∧ ("1" : Str).length + (Txt.mul "0" ((f.val : Nat) : Int)).length ≤ sizeLine := by decide +kernel
theorem bd_ten {f : Nat} (h : f ≤ 60) : Bd 200 ((10 : Int) ^ f) := by
  unfold Bd
  rw [Int.natAbs_pow]
  refine Nat.lt_of_le_of_lt (Nat.pow_le_pow_right (by decide) h) (by decide)
section
variable {P : Program} {w : World} {K : PySem.W.Frag} {mg : Str → Option Value} {base : Heap}
def sp_L_pick : Sp := fun vs H Q _ => ∃ (d l : Addr) (xs : List V) (n : Nat), vs = [.ref d, .ref l] ∧ Tape H d n ∧ n ≤ 1000000 ∧ H l = some (.lst xs) ∧ 1 ≤ xs.length ∧ xs.length ≤ 100 ∧
  ∀ v H', v ∈ xs → SameX d H H' → Tape H' d (n + 1) → Q v H'
theorem sc_L_pick : FnScope ["_law_tape", "_law_some"] ["_law_tape", "_law_some"] (C8.fnScope s_L_pick) := C8.fnScope_by (by decide +kernel)
theorem cal_L_pick (T : Txt K mg) : C8.Cal P w K mg base 2 "_law_pick" sp_L_pick [] := by
  refine cal_mk (T.D_L_pick) (T.g_L_pick) (fun _ _ _ _ _ _ us hl => match us, hl with | [_, _], _ => rfl) sc_L_pick (fun vs H Q E h => ?_) (fun cdv A outer s H vs Q E hr h => ?_)
  · obtain ⟨d, l, xs, n, rfl, _⟩ := h
    rfl
  · obtain ⟨d, l, xs, n, rfl, tp, nn, hl, x1, x2, k⟩ := h
    have ld : l ≠ d := by
      obtain ⟨c, a, r, ys, hd, _⟩ := tp.ex
      exact ne_of hl hd (fun z => by cases z)
    refine ⟨_, (pss_one (ps_ret (pe_ix ix_list (pv 1) (C8.pe_c (cal_L_draw T) hr (by decide) rfl (pa_cons (pv 0) (pa_cons (pe_callB call_len_seq (by rfl) T.f_len b_len (pa_cons (pv 1) pa_nil)) pa_nil))) (fun _ _ => rfl)))), ?_⟩
    refine ⟨_, rfl, _, rfl, _, rfl, l, _, rfl, Or.inl (SqL.of hl), d, _, n, rfl, tp, nn, by omega, ?_, fun r H' r0 r1 sx tp' => ?_⟩
    · unfold Bd
      refine Nat.lt_of_le_of_lt (?_ : _ ≤ 100) (by decide)
      omega
    · obtain ⟨v, hv⟩ : ∃ v, xs[r.toNat]? = some v := ⟨_, List.getElem?_eq_getElem (by omega)⟩
      refine ⟨l, xs, r, v, rfl, rfl, SqL.of (sx _ _ ld hl), ?_, k v H' (List.mem_of_getElem? hv) sx tp'⟩
      rw [← Int.toNat_of_nonneg r0]
      exact atI_nat hv

def sp_L_whole_is : Sp := fun vs H Q _ => ∃ a b : Int, vs = [.int a, .int b] ∧ Q (.bl (decide (a = b))) H
theorem sc_L_whole_is : FnScope ["_law_value", "_law_due"] ["_law_value", "_law_due"] (C8.fnScope s_L_whole_is) := C8.fnScope_by (by decide +kernel)
theorem cal_L_whole_is (T : Txt K mg) : C8.Cal P w K mg base 1 "_law_whole_is" sp_L_whole_is [] := by
  refine cal_mk (T.D_L_whole_is) (T.g_L_whole_is) (fun _ _ _ _ _ _ us hl => match us, hl with | [_, _], _ => rfl) sc_L_whole_is (fun vs H Q E h => ?_) (fun cdv A outer s H vs Q E hr h => ?_)
  · obtain ⟨a, b, rfl, _⟩ := h
    rfl
  · obtain ⟨a, b, rfl, k⟩ := h
    refine ⟨_, (pss_one (ps_ret (pe_and (pe_callB call_isi (by rfl) T.f_isinstance b_isinstance (pa_cons (pv 0) (pa_cons (pe_bltn (v := .ty "int") (u := .type "int") (by rfl) T.f_int b_int rfl) pa_nil))) (pe_and (pe_not (pe_callB call_isi (by rfl) T.f_isinstance b_isinstance (pa_cons (pv 0) (pa_cons (pe_bltn (v := .ty "bool") (u := .type "bool") (by rfl) T.f_bool b_bool rfl) pa_nil)))) (pe_one (pe_cmpR op_eq (pv 0) (pv 1) (nomark _))))))), ?_⟩
    refine ⟨_, rfl, _, _, _, _, true, rfl, .ty "int", .base (.int a), kit_ty (by decide +kernel), true, rfl, iteT ?_⟩
    refine ⟨_, rfl, _, _, _, _, false, rfl, .ty "bool", .base (.int a), kit_ty (by decide +kernel), false, rfl, _, rfl, iteT ?_⟩
    refine ⟨_, rfl, _, rfl, rfl, ?_⟩
    show Q (.bl (decide (V.int a = V.int b))) H
    rw [dec_int0]
    exact k

def sp_L_truth : Sp := fun vs H Q _ => ∃ a b : Bool, vs = [.bl a, .bl b] ∧ Q (.bl (decide (a = b))) H
theorem sc_L_truth : FnScope ["_law_value", "_law_due"] ["_law_value", "_law_due"] (C8.fnScope s_L_truth) := C8.fnScope_by (by decide +kernel)
theorem cal_L_truth (T : Txt K mg) : C8.Cal P w K mg base 1 "_law_truth" sp_L_truth [] := by
  refine cal_mk (T.D_L_truth) (T.g_L_truth) (fun _ _ _ _ _ _ us hl => match us, hl with | [_, _], _ => rfl) sc_L_truth (fun vs H Q E h => ?_) (fun cdv A outer s H vs Q E hr h => ?_)
  · obtain ⟨a, b, rfl, _⟩ := h
    rfl
  · obtain ⟨a, b, rfl, k⟩ := h
    refine ⟨_, (pss_one (ps_ret (pe_ifExp (pt_val (pv 1)) (pe_cmpR op_isBl (pv 0) pe_bl (nomark _)) (pe_cmpR op_isBl (pv 0) pe_bl (nomark _))))), ?_⟩
    refine ⟨_, rfl, _, rfl, ?_⟩
    cases b with
    | true => exact iteT ⟨_, rfl, _, _, rfl, rfl, k⟩
    | false => exact iteF ⟨_, rfl, _, _, rfl, rfl, k⟩

def sp_L_ten : Sp := fun vs H Q _ => ∃ f : Nat, vs = [.int f] ∧ f ≤ 60 ∧ Q (.int (10 ^ f)) H
theorem sc_L_ten : FnScope ["_law_figures"] ["_law_figures"] (C8.fnScope s_L_ten) := C8.fnScope_by (by decide +kernel)
theorem cal_L_ten (T : Txt K mg) : C8.Cal P w K mg base 1 "_law_ten" sp_L_ten [] := by
  refine cal_mk (T.D_L_ten) (T.g_L_ten) (fun _ _ _ _ _ _ us hl => match us, hl with | [_], _ => rfl) sc_L_ten (fun vs H Q E h => ?_) (fun cdv A outer s H vs Q E hr h => ?_)
  · obtain ⟨f, rfl, _⟩ := h
    rfl
  · obtain ⟨f, rfl, hf, k⟩ := h
    refine ⟨_, (pss_one (ps_ret (pe_callTy call_int_str (by rfl) T.f_int b_int (pa_cons (pe_op op_add_str pe_str (pe_op op_mulS pe_str (pv 0))) pa_nil)))), ?_⟩
    have t := ten_text ⟨f, by omega⟩
    refine ⟨_, rfl, _, _, rfl, rfl, by decide, by omega, by omega, _, _, rfl, rfl, t.2.2, _, _, rfl, t.1, t.2.1, k⟩

def sp_L_long : Sp := fun vs H Q _ => ∃ (d : Addr) (f n : Nat), vs = [.ref d, .int f] ∧ f ≤ 60 ∧ Tape H d n ∧ n + 4 ≤ 1000000 ∧
  ∀ r H', 0 ≤ r → r < 10 ^ f → SameX d H H' → Tape H' d (n + 4) → Q (.int r) H'
theorem sc_L_long : FnScope ["_law_tape", "_law_figures", "_law_found", "_law_k"] ["_law_tape", "_law_figures"] (C8.fnScope s_L_long) := C8.fnScope_by (by decide +kernel)
theorem cal_L_long (T : Txt K mg) : C8.Cal P w K mg base 2 "_law_long" sp_L_long [] := by
  refine cal_mk (T.D_L_long) (T.g_L_long) (fun _ _ _ _ _ _ us hl => match us, hl with | [_, _], _ => rfl) sc_L_long (fun vs H Q E h => ?_) (fun cdv A outer s H vs Q E hr h => ?_)
  · obtain ⟨d, f, n, rfl, _⟩ := h
    rfl
  · obtain ⟨d, f, n, rfl, hf, tp, nn, k⟩ := h
    refine ⟨_, (pss_cons (ps_set (i := 2) sc_L_long.nd rfl (Or.inl rfl) pe_int)
      (pss_cons (ps_for PassesOwn.never rfl (pi_range1 rfl T.f_range (pa_cons (pe_op op_fdivW (pe_op op_add (pv 1) pe_int) pe_int) pa_nil)) (pg_name (i := 3) sc_L_long.nd rfl (Or.inl rfl))
      (pss_one (ps_set (i := 2) sc_L_long.nd rfl (Or.inl rfl) (pe_op op_add (pe_op op_mulW (pv 2) (pe_op op_pow pe_int pe_int)) (C8.pe_c (cal_L_draw T) hr (by decide) rfl (pa_cons (pv 0) (pa_cons (pe_op op_pow pe_int pe_int) pa_nil)))))))
      (pss_one (ps_ret (pe_op op_mod (pe_callTy call_intI (by rfl) T.f_int b_int (pa_cons (pv 2) pa_nil)) (C8.pe_c (cal_L_ten T) hr (by decide) rfl (pa_cons (pv 1) pa_nil))))))), ?_⟩
    refine ⟨_, rfl, _, _, rfl, rfl, _, _, rfl, rfl, (by walk_at "div"), _, rfl, by omega, by omega, ?_⟩
    refine for_range (fun i σ H' => ∃ (vk : Option V) (x : Int), σ = [some (.ref d), some (.int f), some (.int x), vk] ∧ Bd (130 * i + 64) x ∧ SameX d H H' ∧ Tape H' d (n + i)) ⟨none, 0, rfl, Bd.lit64 (by decide), SameX.refl d H, tp⟩ ?_ ?_
    · rintro i σ H' hi ⟨vk, x, rfl, bx, sx, tp'⟩
      have i4 : i < 4 := by omega
      have b1 : Bd (130 * i + 128) (x * 10 ^ (15 : Int).toNat) := (Bd.mul bx (Bd.lit64 (x := (10 : Int) ^ (15 : Int).toNat) (by decide))).mono (by omega)
      refine ⟨_, rfl, _, _, rfl, rfl, ⟨by decide, by decide, by decide⟩, _, _, rfl, rfl, Bd.mulW bx (Bd.lit64 (x := (10 : Int) ^ (15 : Int).toNat) (by decide)) (by omega), ?_⟩
      refine ⟨_, rfl, _, _, rfl, rfl, ⟨by decide, by decide, by decide⟩, d, _, n + i, rfl, tp', by omega, by decide, Bd.lit64 (x := (10 : Int) ^ (15 : Int).toNat) (by decide), fun r H'' r0 r1 sx' tp'' => ?_⟩
      refine ⟨_, _, rfl, rfl, _, _, rfl, ?_, sx.trans sx', tp''⟩
      have b2 : Bd 64 r := Bd.le (Bd.lit64 (x := (10 : Int) ^ (15 : Int).toNat) (by decide)) r0 (Int.le_of_lt r1)
      exact (Bd.add b1 b2).mono (by omega)
    · rintro σ H' ⟨vk, x, rfl, bx, sx, tp'⟩
      refine ⟨_, rfl, _, rfl, _, rfl, f, rfl, hf, _, _, rfl, rfl, ten_pos f, ?_⟩
      exact k _ _ (Int.emod_nonneg _ (Int.ne_of_gt (ten_pos f))) (Int.emod_lt_of_pos _ (ten_pos f)) sx (tp'.mono (by omega))

def sp_L_size : Sp := fun vs H Q _ => ∃ (d : Addr) (f n : Nat), vs = [.ref d, .int f] ∧ 1 ≤ f ∧ f ≤ 60 ∧ Tape H d n ∧ n + 8 ≤ 1000000 ∧
  ∀ r H', 0 ≤ r → r < 10 ^ f → SameX d H H' → Tape H' d (n + 8) → Q (.int r) H'
theorem sc_L_size : FnScope ["_law_tape", "_law_figures", "_law_sort", "_law_found"] ["_law_tape", "_law_figures"] (C8.fnScope s_L_size) := C8.fnScope_by (by decide +kernel)
theorem cal_L_size (T : Txt K mg) : C8.Cal P w K mg base 3 "_law_size" sp_L_size [] := by
  refine cal_mk (T.D_L_size) (T.g_L_size) (fun _ _ _ _ _ _ us hl => match us, hl with | [_, _], _ => rfl) sc_L_size (fun vs H Q E h => ?_) (fun cdv A outer s H vs Q E hr h => ?_)
  · obtain ⟨d, f, n, rfl, _⟩ := h
    rfl
  · obtain ⟨d, f, n, rfl, hf0, hf, tp, nn, k⟩ := h
    have bf : Bd 64 (f : Int) := by
      unfold Bd
      refine Nat.lt_of_le_of_lt (?_ : _ ≤ 60) (by decide)
      omega
    refine ⟨_, (pss_cons (ps_par (i := 2) (j := 3) (by rfl) sc_L_size.nd rfl rfl (by decide) rfl rfl (pa_cons (C8.pe_c (cal_L_draw T) hr (by decide) rfl (pa_cons (pv 0) (pa_cons pe_int pa_nil))) (pa_cons pe_int pa_nil)) (by rfl))
      (C8.pss_cut (ps_if (pt_cmpR op_lt (pv 2) pe_int (nomark _)) (pss_one (ps_set (i := 3) sc_L_size.nd rfl (Or.inl rfl) (C8.pe_c (cal_L_draw T) hr (by decide) rfl (pa_cons (pv 0) (pa_cons (pe_ix ix_list (pe_lst (pa_cons pe_int (pa_cons pe_int (pa_cons pe_int pa_nil)))) (pv 2) (fun _ _ => rfl)) pa_nil)))))
      (pss_one (ps_if (pt_cmpR op_eq (pv 2) pe_int (nomark _)) (pss_one (ps_set (i := 3) sc_L_size.nd rfl (Or.inl rfl) (C8.pe_c (cal_L_long T) hr (by decide) rfl (pa_cons (pv 0) (pa_cons (pe_op op_add pe_int (C8.pe_c (cal_L_draw T) hr (by decide) rfl (pa_cons (pv 0) (pa_cons (pv 1) pa_nil)))) pa_nil)))))
      (pss_one (ps_if (pt_cmpR op_eq (pv 2) pe_int (nomark _)) (pss_one (ps_set (i := 3) sc_L_size.nd rfl (Or.inl rfl) (C8.pe_c (cal_L_long T) hr (by decide) rfl (pa_cons (pv 0) (pa_cons (pv 1) pa_nil)))))
      (pss_one (ps_set (i := 3) sc_L_size.nd rfl (Or.inl rfl) (pe_callB (call_max2 rfl) (by rfl) T.f_max b_max (pa_cons pe_int (pa_cons (pe_op op_sub (pe_op op_sub (C8.pe_c (cal_L_ten T) hr (by decide) rfl (pa_cons (pe_op op_add pe_int (C8.pe_c (cal_L_draw T) hr (by decide) rfl (pa_cons (pv 0) (pa_cons (pv 1) pa_nil)))) pa_nil)) (C8.pe_c (cal_L_draw T) hr (by decide) rfl (pa_cons (pv 0) (pa_cons pe_int pa_nil)))) pe_int) pa_nil))))))))))
      (pss_one (ps_ret (pe_op op_mod (pe_callTy call_intI (by rfl) T.f_int b_int (pa_cons (pv 3) pa_nil)) (C8.pe_c (cal_L_ten T) hr (by decide) rfl (pa_cons (pv 1) pa_nil))))))), ?_⟩
    refine ⟨_, rfl, d, _, n, rfl, tp, by omega, by decide, Bd.lit64 (by decide), fun q H1 q0 q6 sx1 tp1 => ⟨_, _, rfl, ?_⟩⟩
    refine ⟨fun σ H' => ∃ x : Int, σ = [some (.ref d), some (.int f), some (.int q), some (.int x)] ∧ SameX d H H' ∧ Tape H' d (n + 8), ?_, ?_⟩
    · refine ⟨_, rfl, _, _, rfl, rfl, _, rfl, ite2 (fun g => ?_) (fun g => ?_)⟩
      · have q3 : q < 3 := of_decide_eq_true g
        refine ⟨_, rfl, by show 3 ≤ sizeLine; decide, fun l nl => ?_⟩
        have ex : ∃ y : Int, atI [V.int 5, V.int 13, V.int 90] q = some (.int y) ∧ 0 < y ∧ y ≤ 90 := by
          have : q = 0 ∨ q = 1 ∨ q = 2 := by omega
          rcases this with e | e | e <;> subst e
          · exact ⟨5, rfl, by decide, by decide⟩
          · exact ⟨13, rfl, by decide, by decide⟩
          · exact ⟨90, rfl, by decide, by decide⟩
        obtain ⟨y, ey, y0, y9⟩ := ex
        refine ⟨_, rfl, l, _, _, _, rfl, rfl, SqL.of upd_same, ey, ?_⟩
        refine ⟨d, y, n + 1, rfl, tp1.same (Same.new nl), by omega, y0, (Bd.lit64 (x := 90) (by decide)).le (by omega) y9, fun r H' r0 r1 sx' tp' => ?_⟩
        exact ⟨r, rfl, (sx1.new nl).trans sx', tp'.mono (by omega)⟩
      · refine ⟨_, rfl, rfl, _, rfl, ite2 (fun g => ?_) (fun g => ?_)⟩
        · refine ⟨_, rfl, _, rfl, _, rfl, d, f, n + 1, rfl, tp1, by omega, by omega, bf, fun r H' r0 r1 sx' tp' => ?_⟩
          obtain ⟨r, rfl⟩ := Int.eq_ofNat_of_zero_le r0
          refine ⟨_, _, rfl, rfl, d, 1 + r, n + 2, ?_, by omega, tp', by omega, fun z H2 z0 z1 sx2 tp2 => ?_⟩
          · show [V.ref d, V.int (1 + (r : Int))] = [V.ref d, V.int ((1 + r : Nat) : Int)]
            rw [Int.natCast_add]
            rfl
          · exact ⟨z, rfl, (sx1.trans sx').trans sx2, tp2.mono (by omega)⟩
        · refine ⟨_, rfl, rfl, _, rfl, ite2 (fun g => ?_) (fun g => ?_)⟩
          · refine ⟨_, rfl, _, rfl, d, f, n + 1, rfl, hf, tp1, by omega, fun z H2 z0 z1 sx2 tp2 => ?_⟩
            exact ⟨z, rfl, sx1.trans sx2, tp2.mono (by omega)⟩
          · refine ⟨_, rfl, _, rfl, d, f, n + 1, rfl, tp1, by omega, by omega, bf, fun r H' r0 r1 sx' tp' => ?_⟩
            obtain ⟨r, rfl⟩ := Int.eq_ofNat_of_zero_le r0
            refine ⟨_, _, rfl, rfl, 1 + r, ?_, by omega, ?_⟩
            · show [V.int (1 + (r : Int))] = [V.int ((1 + r : Nat) : Int)]
              rw [Int.natCast_add]
              rfl
            refine ⟨_, rfl, d, 4, n + 2, rfl, tp', by omega, by decide, Bd.lit64 (by decide), fun z H2 z0 z1 sx2 tp2 => ?_⟩
            refine ⟨_, _, rfl, rfl, _, _, rfl, rfl, _, _, rfl, ?_⟩
            exact ⟨_, rfl, (sx1.trans sx').trans sx2, tp2.mono (by omega)⟩
    · rintro σ H' ⟨x, rfl, sx, tp'⟩
      refine ⟨_, rfl, _, rfl, _, rfl, f, rfl, hf, _, _, rfl, rfl, ten_pos f, ?_⟩
      exact k _ _ (Int.emod_nonneg _ (Int.ne_of_gt (ten_pos f))) (Int.emod_lt_of_pos _ (ten_pos f)) sx tp'

def sp_L_signed : Sp := fun vs H Q _ => ∃ (d : Addr) (f n : Nat), vs = [.ref d, .int f] ∧ 1 ≤ f ∧ f ≤ 60 ∧ Tape H d n ∧ n + 9 ≤ 1000000 ∧
  ∀ r H', -(10 ^ f) < r → r < 10 ^ f → SameX d H H' → Tape H' d (n + 9) → Q (.int r) H'
theorem sc_L_signed : FnScope ["_law_tape", "_law_figures", "_law_found"] ["_law_tape", "_law_figures"] (C8.fnScope s_L_signed) := C8.fnScope_by (by decide +kernel)
theorem cal_L_signed (T : Txt K mg) : C8.Cal P w K mg base 4 "_law_signed" sp_L_signed [] := by
  refine cal_mk (T.D_L_signed) (T.g_L_signed) (fun _ _ _ _ _ _ us hl => match us, hl with | [_, _], _ => rfl) sc_L_signed (fun vs H Q E h => ?_) (fun cdv A outer s H vs Q E hr h => ?_)
  · obtain ⟨d, f, n, rfl, _⟩ := h
    rfl
  · obtain ⟨d, f, n, rfl, hf0, hf, tp, nn, k⟩ := h
    refine ⟨_, (pss_cons (ps_set (i := 2) sc_L_signed.nd rfl (Or.inl rfl) (C8.pe_c (cal_L_size T) hr (by decide) rfl (pa_cons (pv 0) (pa_cons (pv 1) pa_nil))))
      (pss_one (ps_ret (pe_ifExp (pt_truth (C8.pe_c (cal_L_draw T) hr (by decide) rfl (pa_cons (pv 0) (pa_cons pe_int pa_nil))) (by intro _; rfl)) (pe_un un_neg (pv 2)) (pv 2))))), ?_⟩
    refine ⟨_, rfl, _, rfl, d, f, n, rfl, hf0, hf, tp, by omega, fun x H1 x0 x1 sx1 tp1 => ?_⟩
    refine ⟨_, rfl, d, 2, n + 8, rfl, tp1, by omega, by decide, Bd.lit64 (by decide), fun y H2 y0 y1 sx2 tp2 => ⟨_, rfl, ite2 (fun g => ?_) (fun g => ?_)⟩⟩
    · exact ⟨_, rfl, _, rfl, k _ _ (by omega) (by omega) (sx1.trans sx2) tp2⟩
    · exact ⟨_, rfl, k _ _ (by omega) x1 (sx1.trans sx2) tp2⟩

def sp_L_common : Sp := fun vs H Q _ => ∃ a b : Int, vs = [.int a, .int b] ∧ Bd 700 a ∧ Bd 700 b ∧ Q (.int (Nat.gcd a.natAbs b.natAbs : Nat)) H
theorem sc_L_common : FnScope ["_law_one", "_law_other", "_law_k"] ["_law_one", "_law_other"] (C8.fnScope s_L_common) := C8.fnScope_by (by decide +kernel)
theorem cal_L_common (T : Txt K mg) : C8.Cal P w K mg base 1 "_law_common" sp_L_common [] := by
  refine cal_mk (T.D_L_common) (T.g_L_common) (fun _ _ _ _ _ _ us hl => match us, hl with | [_, _], _ => rfl) sc_L_common (fun vs H Q E h => ?_) (fun cdv A outer s H vs Q E hr h => ?_)
  · obtain ⟨a, b, rfl, _⟩ := h
    rfl
  · obtain ⟨a, b, rfl, ba, bb, k⟩ := h
    refine ⟨_, (pss_cons (ps_par (i := 0) (j := 1) (by rfl) sc_L_common.nd rfl rfl (by decide) rfl rfl (pa_cons (pe_callB call_abs (by rfl) T.f_abs b_abs (pa_cons (pv 0) pa_nil)) (pa_cons (pe_callB call_abs (by rfl) T.f_abs b_abs (pa_cons (pv 1) pa_nil)) pa_nil)) (by rfl))
      (pss_cons (ps_for PassesOwn.never rfl (pi_range1 rfl T.f_range (pa_cons pe_int pa_nil)) (pg_name (i := 2) sc_L_common.nd rfl (Or.inl rfl))
      (pss_cons (ps_if (pt_cmpR op_eq (pv 1) pe_int (nomark _)) (pss_one ps_break)
      pss_nil)
      (pss_one (ps_par (i := 0) (j := 1) (by rfl) sc_L_common.nd rfl rfl (by decide) rfl rfl (pa_cons (pv 1) (pa_cons (pe_op op_mod (pe_callTy call_intI (by rfl) T.f_int b_int (pa_cons (pv 0) pa_nil)) (pv 1)) pa_nil)) (by rfl)))))
      (pss_one (ps_ret (pv 0))))), ?_⟩
    refine ⟨_, rfl, _, rfl, _, rfl, _, rfl, _, _, rfl, _, rfl, by decide, by decide, ?_⟩
    have abs : ∀ z : Int, (if z < 0 then -z else z) = (z.natAbs : Int) := fun z => by split <;> omega
    rw [abs a, abs b]
    have big : (a.natAbs : Int) * (b.natAbs : Int) ≤ 2 ^ 1400 := by
      have h1 : Bd 1400 ((a.natAbs : Int) * (b.natAbs : Int)) := (Bd.mul (a := 700) (b := 700) (x := (a.natAbs : Int)) (y := (b.natAbs : Int)) ba bb)
      have h2 : ((a.natAbs : Int) * (b.natAbs : Int)).natAbs < 2 ^ 1400 := h1
      have h3 : ((2 : Nat) ^ 1400 : Nat) = (2 : Int) ^ 1400 := by decide +kernel
      omega
    have fin : ∀ (x y : Int) (vk : Option V), 0 ≤ x → y = 0 → Nat.gcd x.natAbs y.natAbs = Nat.gcd a.natAbs b.natAbs → Q (.int x) H := fun x y vk x0 y0 hg => by
      subst y0
      have e : ((Nat.gcd a.natAbs b.natAbs : Nat) : Int) = x := by
        rw [← hg]
        simp
        omega
      rw [← e]
      exact k
    refine for_range (fun i σ H' => ∃ (vk : Option V) (x y : Int), σ = [some (.int x), some (.int y), vk] ∧ H' = H ∧ 0 ≤ x ∧ 0 ≤ y ∧ Nat.gcd x.natAbs y.natAbs = Nat.gcd a.natAbs b.natAbs ∧ (i = 0 → x * y ≤ 2 ^ 1400) ∧ ∀ j, i = j + 1 → 2 ^ j * (x * y) ≤ 2 ^ 1400 ∧ y ≤ x)
      ⟨none, _, _, rfl, rfl, by omega, by omega, rfl, fun _ => big, fun j e => by omega⟩ ?_ ?_
    · rintro i σ H' hi ⟨vk, x, y, rfl, rfl, x0, y0, hg, p0, p1⟩
      refine ⟨_, rfl, rfl, _, rfl, ite2 (fun g => ?_) (fun g => ?_)⟩
      · rw [dec_int0] at g
        exact ⟨_, rfl, fin x y none x0 (of_decide_eq_true g) hg⟩
      · rw [dec_int0] at g
        have y1 : 0 < y := by
          have : ¬ y = 0 := fun z => g (decide_eq_true z)
          omega
        refine ⟨_, rfl, _, rfl, _, rfl, _, rfl, _, _, rfl, rfl, y1, _, _, rfl, ?_⟩
        have l0 := Int.emod_nonneg x (show y ≠ 0 by omega)
        have l1 := Int.emod_lt_of_pos x y1
        refine ⟨_, _, _, rfl, rfl, y0, l0, by rw [gcd_turn x0 y1, hg], fun z => by omega, fun j e => ⟨?_, Int.le_of_lt l1⟩⟩
        obtain rfl : i = j := by omega
        rcases Nat.eq_zero_or_pos i with z | z
        · subst z
          have l2 : x % y ≤ x := by
            by_cases h : x < y
            · rw [Int.emod_eq_of_lt x0 h]
              exact Int.le_refl _
            · omega
          have l3 := Int.mul_le_mul_of_nonneg_left l2 y0
          have l4 := p0 rfl
          rw [Int.pow_zero, Int.one_mul]
          rw [Int.mul_comm x y] at l4
          omega
        · obtain ⟨j, rfl⟩ : ∃ j, i = j + 1 := ⟨i - 1, by omega⟩
          obtain ⟨p2, p3⟩ := p1 j rfl
          exact half_step y1 p2 p3
    · rintro σ H' ⟨vk, x, y, rfl, rfl, x0, y0, hg, p0, p1⟩
      refine ⟨_, rfl, fin x y none x0 ?_ hg⟩
      obtain ⟨p2, p3⟩ := p1 1999 rfl
      by_cases z : y = 0
      · exact z
      · exfalso
        have h1 := Int.mul_le_mul (show (1 : Int) ≤ x by omega) (show (1 : Int) ≤ y by omega) (by decide) x0
        have := steps_le (n := 1999) (b := 1400) (x := x * y) (by omega) p2
        omega

def sp_L_house : Sp := fun vs H Q _ => ∃ (t : Addr) (h S e q k : Int), vs = [.ref t, .int k] ∧ H t = some (.tup [.int h, .int S, .int e, .int q]) ∧ 0 < h ∧ 0 < q ∧ Bd 700 h ∧ Bd 700 q ∧ Bd 700 e ∧ Bd 700 k ∧ Q (.int ((S + e * k) / q % h)) H
theorem sc_L_house : FnScope ["_law_told", "_law_k", "_law_houses", "_law_start", "_law_rise", "_law_run"] ["_law_told", "_law_k"] (C8.fnScope s_L_house) := C8.fnScope_by (by decide +kernel)
theorem cal_L_house (T : Txt K mg) : C8.Cal P w K mg base 1 "_law_house" sp_L_house [] := by
  refine cal_mk (T.D_L_house) (T.g_L_house) (fun _ _ _ _ _ _ us hl => match us, hl with | [_, _], _ => rfl) sc_L_house (fun vs H Q E h => ?_) (fun cdv A outer s H vs Q E hr h => ?_)
  · obtain ⟨t, h, S, e, q, k, rfl, _⟩ := h
    rfl
  · obtain ⟨t, h, S, e, q, x, rfl, ht, h0, q0, bh, bq, be, bx, k⟩ := h
    refine ⟨_, (pss_cons (ps_asg (pv 0) (pg_tup rfl (pgs_cons (pg_name (i := 2) sc_L_house.nd rfl (Or.inl rfl)) (pgs_cons (pg_name (i := 3) sc_L_house.nd rfl (Or.inl rfl)) (pgs_cons (pg_name (i := 4) sc_L_house.nd rfl (Or.inl rfl)) (pgs_cons (pg_name (i := 5) sc_L_house.nd rfl (Or.inl rfl)) pgs_nil))))))
      (pss_one (ps_ret (pe_op op_mod (pe_op op_fdivW (pe_op op_add (pv 3) (pe_op op_mulW (pv 4) (pv 1))) (pv 5)) (pv 2))))), ?_⟩
    refine ⟨_, rfl, t, _, rfl, SqT.of ht, rfl, _, _, rfl, _, _, rfl, _, _, rfl, _, _, rfl, rfl, ?_⟩
    exact ⟨_, rfl, _, rfl, _, rfl, _, _, rfl, rfl, (by walk_at "mul"), _, _, rfl, rfl, _, rfl, _, _, rfl, rfl, (by walk_at "div"), _, rfl, _, _, rfl, rfl, (by walk_at "pos"), k⟩
end
end K21

set_option Elab.async false
set_option linter.all false
set_option maxRecDepth 100000
set_option maxHeartbeats 4000000
set_option exponentiation.threshold 2000
/-! The walk: a drawn course. -/
namespace K21
open PySem PySem.Spec PyProof.Rows L2
local macro_rules | `(tactic| walk_at "pos") => `(tactic| first | assumption | ((with_reducible show (0 : Int) < _); first | assumption | omega | decide) | decide)
local macro_rules | `(tactic| walk_at "b") => `(tactic| (repeat' (first | ((with_reducible show Bd _ _); first | assumption | exact Bd.lit64 (by decide) | (refine' Bd.add ?_ ?_) | (refine' Bd.sub ?_ ?_) | (refine' Bd.mul ?_ ?_) | (refine' Bd.neg ?_) | (refine' Bd.div ?_ ?_) | (refine' Bd.mod ?_ ?_)) | ((with_reducible show (_ : Int) < _); first | assumption | omega))))
local macro_rules | `(tactic| walk_at "mul") => `(tactic| exact Bd.mulW (by walk_at "b") (by walk_at "b") (by decide))
local macro_rules | `(tactic| walk_at "div") => `(tactic| exact Bd.divW (by walk_at "pos") (by walk_at "b") (by decide))
theorem ten_cast (f : Nat) : ((10 ^ f : Nat) : Int) = (10 : Int) ^ f := by rw [Int.natCast_pow]; rfl
theorem ten_le {f g : Nat} (h : f ≤ g) : (10 : Int) ^ f ≤ 10 ^ g := by
  rw [← ten_cast, ← ten_cast]
  exact Int.ofNat_le.mpr (Nat.pow_le_pow_right (by decide) h)
theorem ten_ge {f : Nat} (h : 1 ≤ f) : (10 : Int) ≤ 10 ^ f := ten_le (f := 1) h
/-- below a power of ten -/
theorem bd_10 {x : Int} {f : Nat} (h0 : -(10 ^ f) - 1 ≤ x) (h1 : x ≤ 10 ^ f + 1) (hf : f ≤ 30) : Bd 110 x := by
  have h2 := ten_le (f := f) (g := 30) hf
  have h3 : ((10 : Int) ^ 30) = 1000000000000000000000000000000 := by decide
  have h4 : x.natAbs ≤ 1000000000000000000000000000001 := by omega
  exact Nat.lt_of_le_of_lt h4 (by decide)
/-- the parts of a drawn course, by their common factor -/
theorem part_cop {e q : Int} (q1 : 1 ≤ q) : let g : Int := ((Nat.gcd e.natAbs q.natAbs : Nat) : Int); 0 < g ∧ 1 ≤ q / g ∧ q / g ≤ q ∧ Nat.gcd (q / g).natAbs (e / g).natAbs = 1 := by
  intro g
  have hn : 0 < Nat.gcd e.natAbs q.natAbs := Nat.gcd_pos_of_pos_right _ (by omega)
  have g0 : 0 < g := by show (0 : Int) < ((Nat.gcd e.natAbs q.natAbs : Nat) : Int); omega
  have d1 : g ∣ q := Int.ofNat_dvd_left.mpr (Nat.gcd_dvd_right _ _)
  have d2 : g ∣ e := Int.ofNat_dvd_left.mpr (Nat.gcd_dvd_left _ _)
  obtain ⟨a, ha⟩ := d1
  obtain ⟨b, hb⟩ := d2
  have e1 : q / g = a := by rw [ha, Int.mul_ediv_cancel_left _ (by omega)]
  have e2 : e / g = b := by rw [hb, Int.mul_ediv_cancel_left _ (by omega)]
  have a1 : 1 ≤ a := by
    rcases Int.lt_or_le 0 a with z | z
    · omega
    · have := Int.mul_nonpos_of_nonneg_of_nonpos (show 0 ≤ g by omega) z
      omega
  refine ⟨g0, by rw [e1]; exact a1, ?_, ?_⟩
  · rw [e1, ha]
    have := Int.mul_le_mul_of_nonneg_right (show 1 ≤ g by omega) (show 0 ≤ a by omega)
    omega
  · rw [e1, e2]
    have k : Nat.gcd e.natAbs q.natAbs = Nat.gcd e.natAbs q.natAbs * Nat.gcd b.natAbs a.natAbs := by
      have h1 : e.natAbs = Nat.gcd e.natAbs q.natAbs * b.natAbs := by
        have := congrArg Int.natAbs hb
        rw [Int.natAbs_mul] at this
        exact this
      have h2 : q.natAbs = Nat.gcd e.natAbs q.natAbs * a.natAbs := by
        have := congrArg Int.natAbs ha
        rw [Int.natAbs_mul] at this
        exact this
      have h3 := Nat.gcd_mul_left (Nat.gcd e.natAbs q.natAbs) b.natAbs a.natAbs
      rw [← h1, ← h2] at h3
      exact h3
    rw [Nat.gcd_comm]
    have k2 : Nat.gcd e.natAbs q.natAbs * 1 = Nat.gcd e.natAbs q.natAbs * Nat.gcd b.natAbs a.natAbs := by omega
    exact (Nat.eq_of_mul_eq_mul_left hn k2).symm
section
variable {P : Program} {w : World} {K : PySem.W.Frag} {mg : Str → Option Value} {base : Heap}
/-- a drawn course: its four parts -/
structure Drawn (f : Nat) (h S e q : Int) : Prop where
  h1 : 1 ≤ h
  hh : h ≤ 10 ^ f + 1
  q1 : 1 ≤ q
  qq : q ≤ 10 ^ f
  be : Bd 300 e
  cop : Nat.gcd q.natAbs e.natAbs = 1
def sp_L_drawn : Sp := fun vs H Q _ => ∃ (d : Addr) (f n : Nat), vs = [.ref d, .int f] ∧ 1 ≤ f ∧ f ≤ 30 ∧ Tape H d n ∧ n + 60 ≤ 1000000 ∧
  ∀ t H' h S e q, SameX d H H' → Tape H' d (n + 60) → H' t = some (.tup [.int h, .int S, .int e, .int q]) → Drawn f h S e q → Q (.ref t) H'
theorem sc_L_drawn : FnScope ["_law_tape", "_law_figures", "_law_houses", "_law_run", "_law_marks", "_law_near", "_law_rise", "_law_part"] ["_law_tape", "_law_figures"] (C8.fnScope s_L_drawn) := C8.fnScope_by (by decide +kernel)
theorem cal_L_drawn (T : Txt K mg) : C8.Cal P w K mg base 5 "_law_drawn" sp_L_drawn [] := by
  refine cal_mk (T.D_L_drawn) (T.g_L_drawn) (fun _ _ _ _ _ _ us hl => match us, hl with | [_, _], _ => rfl) sc_L_drawn (fun vs H Q E h => ?_) (fun cdv A outer s H vs Q E hr h => ?_)
  · obtain ⟨d, f, n, rfl, _⟩ := h
    rfl
  · obtain ⟨d, f, n, rfl, hf0, hf, tp, nn, k⟩ := h
    have t10 := ten_ge hf0
    refine ⟨_, (pss_cons (ps_par (i := 2) (j := 3) (by rfl) sc_L_drawn.nd rfl rfl (by decide) rfl rfl (pa_cons (C8.pe_c (cal_L_pick T) hr (by decide) rfl (pa_cons (pv 0) (pa_cons (pe_lst (pa_cons pe_int (pa_cons pe_int (pa_cons pe_int (pa_cons (pe_op op_add pe_int (C8.pe_c (cal_L_size T) hr (by decide) rfl (pa_cons (pv 0) (pa_cons (pv 1) pa_nil)))) pa_nil))))) pa_nil))) (pa_cons (pe_op op_add pe_int (C8.pe_c (cal_L_size T) hr (by decide) rfl (pa_cons (pv 0) (pa_cons (pv 1) pa_nil)))) pa_nil)) (by rfl))
      (pss_cons (ps_par (i := 4) (j := 5) (by rfl) sc_L_drawn.nd rfl rfl (by decide) rfl rfl (pa_cons (pe_op op_mulW (pv 3) (pv 2)) (pa_cons (C8.pe_c (cal_L_draw T) hr (by decide) rfl (pa_cons (pv 0) (pa_cons pe_int pa_nil))) pa_nil)) (by rfl))
      (pss_cons (ps_set (i := 6) sc_L_drawn.nd rfl (Or.inl rfl) (C8.pe_c (cal_L_pick T) hr (by decide) rfl (pa_cons (pv 0) (pa_cons (pe_lst (pa_cons (pe_op op_add pe_int (pv 5)) (pa_cons (pe_op op_sub (pe_un un_neg pe_int) (pv 5)) (pa_cons (pe_op op_add (pv 3) (pv 5)) (pa_cons (pe_op op_add (pe_op op_fdivW (pv 4) pe_int) (pv 5)) (pa_cons (pe_op op_sub (pe_op op_fdivW (pv 4) pe_int) (pv 5)) (pa_cons (C8.pe_c (cal_L_signed T) hr (by decide) rfl (pa_cons (pv 0) (pa_cons (pv 1) pa_nil))) pa_nil))))))) pa_nil))))
      (C8.pss_cut (ps_if (pt_cmpR op_eq (C8.pe_c (cal_L_draw T) hr (by decide) rfl (pa_cons (pv 0) (pa_cons pe_int pa_nil))) pe_int (nomark _)) (pss_one (ps_set (i := 6) sc_L_drawn.nd rfl (Or.inl rfl) (pe_op op_mod (pe_callTy call_intI (by rfl) T.f_int b_int (pa_cons (pe_op op_mulW (pv 6) (pv 2)) pa_nil)) (pv 4))))
      pss_nil)
      (pss_cons (ps_set (i := 7) sc_L_drawn.nd rfl (Or.inl rfl) (C8.pe_c (cal_L_common T) hr (by decide) rfl (pa_cons (pv 6) (pa_cons (pv 3) pa_nil))))
      (pss_one (ps_ret (pe_tup (pa_cons (pv 2) (pa_cons (C8.pe_c (cal_L_signed T) hr (by decide) rfl (pa_cons (pv 0) (pa_cons (pv 1) pa_nil))) (pa_cons (pe_op op_fdivW (pv 6) (pv 7)) (pa_cons (pe_op op_fdivW (pv 3) (pv 7)) pa_nil)))))))))))), ?_⟩
    refine ⟨_, rfl, _, rfl, _, rfl, d, f, n, rfl, hf0, by omega, tp, by omega, fun x H1 x0 x1 sx1 tp1 => ?_⟩
    refine ⟨_, _, rfl, rfl, by show 4 ≤ sizeLine; decide, fun l nl => ?_⟩
    refine ⟨d, l, _, n + 8, rfl, tp1.same (Same.new nl), by omega, upd_same, by show 1 ≤ 4; decide, by show 4 ≤ 100; decide, fun v H2 hv sx2 tp2 => ?_⟩
    obtain ⟨h, rfl, h1, hh⟩ : ∃ h : Int, v = .int h ∧ 1 ≤ h ∧ h ≤ 10 ^ f + 1 := by
      simp only [List.mem_cons, List.not_mem_nil, or_false] at hv
      rcases hv with e | e | e | e
      · exact ⟨1, e, by omega, by omega⟩
      · exact ⟨2, e, by omega, by omega⟩
      · exact ⟨3, e, by omega, by omega⟩
      · exact ⟨_, e, by omega, by omega⟩
    refine ⟨_, rfl, _, rfl, d, f, n + 9, rfl, hf0, by omega, tp2, by omega, fun y H3 y0 y1 sx3 tp3 => ⟨_, _, rfl, rfl, _, _, rfl, ?_⟩⟩
    have bh : Bd 110 h := bd_10 (by omega) hh hf
    have bq : Bd 110 (1 + y) := bd_10 (by omega) (by omega) hf
    have sx : SameX d H H3 := ((sx1.new nl).trans sx2).trans sx3
    clear sx1 sx2 sx3 tp tp1 tp2 hv nl
    have q1 : 1 ≤ 1 + y := by omega
    have qq : 1 + y ≤ 10 ^ f := by omega
    refine ⟨_, rfl, _, rfl, _, _, rfl, rfl, (by walk_at "mul"), _, rfl, d, 9, n + 17, rfl, tp3, by omega, by decide, Bd.lit64 (by decide), fun z H4 z0 z9 sx4 tp4 => ⟨_, _, rfl, ?_⟩⟩
    have bz : Bd 64 z := (Bd.lit64 (x := 9) (by decide)).le z0 (Int.le_of_lt z9)
    refine ⟨_, rfl, _, rfl, _, _, rfl, rfl, _, rfl, _, rfl, _, _, rfl, rfl, _, rfl, _, rfl, _, _, rfl, rfl, _, rfl, _, _, rfl, rfl, (by walk_at "div"), _, rfl, _, _, rfl, rfl, _, rfl, _, _, rfl, rfl, (by walk_at "div"), _, rfl, _, _, rfl, rfl, _, rfl, _, rfl, d, f, n + 18, rfl, hf0, by omega, tp4, by omega, fun x6 H5 s0 s1 sx5 tp5 => ⟨by show 6 ≤ sizeLine; decide, fun l nl => ?_⟩⟩
    refine ⟨d, l, _, n + 27, rfl, tp5.same (Same.new nl), by omega, upd_same, by show 1 ≤ 6; decide, by show 6 ≤ 100; decide, fun v H6 hv sx6 tp6 => ?_⟩
    have bm : Bd 220 ((1 + y) * h) := Bd.mul bq bh
    obtain ⟨e, rfl, be⟩ : ∃ e : Int, v = .int e ∧ Bd 230 e := by
      simp only [List.mem_cons, List.not_mem_nil, or_false] at hv
      rcases hv with e | e | e | e | e | e
      · exact ⟨_, e, (Bd.add (Bd.lit64 (x := 1) (by decide)) bz).mono (by decide)⟩
      · exact ⟨_, e, (Bd.sub (Bd.lit64 (x := -1) (by decide)) bz).mono (by decide)⟩
      · exact ⟨_, e, (Bd.add bq bz).mono (by decide)⟩
      · exact ⟨_, e, (Bd.add (bm.div (by decide)) bz).mono (by decide)⟩
      · exact ⟨_, e, (Bd.sub (bm.div (by decide)) bz).mono (by decide)⟩
      · exact ⟨_, e, (bd_10 (f := f) (by omega) (by omega) hf).mono (by decide)⟩
    have sx' : SameX d H H6 := (((sx.trans sx4).trans sx5).new nl).trans sx6
    clear sx4 sx5 sx6 sx tp3 tp4 tp5 hv nl
    refine ⟨fun σ H' => ∃ e : Int, σ = [some (.ref d), some (.int f), some (.int h), some (.int (1 + y)), some (.int ((1 + y) * h)), some (.int z), some (.int e), none] ∧ Bd 300 e ∧ SameX d H H' ∧ Tape H' d (n + 29), ?_, ?_⟩
    · refine ⟨_, rfl, d, 4, n + 28, rfl, tp6, by omega, by decide, Bd.lit64 (by decide), fun u H7 u0 u4 sx7 tp7 => ⟨rfl, _, rfl, ite2 (fun g => ?_) (fun g => ?_)⟩⟩
      · have m0 : 0 < (1 + y) * h := Int.mul_pos (by omega) (by omega)
        refine ⟨_, rfl, _, rfl, _, _, rfl, rfl, (by walk_at "mul"), _, rfl, _, rfl, _, _, rfl, rfl, (by walk_at "pos"), ?_⟩
        exact ⟨_, rfl, (bm.mod m0).mono (by decide), sx'.trans sx7, tp7⟩
      · exact ⟨e, rfl, be.mono (by decide), sx'.trans sx7, tp7⟩
    · rintro σ H' ⟨e, rfl, be, sx, tp⟩
      obtain ⟨g0, p1, p2, cop⟩ := part_cop (e := e) (q := 1 + y) q1
      refine ⟨_, rfl, _, rfl, e, _, rfl, be.mono (by decide), bq.mono (by decide), ?_⟩
      have gq : ((Nat.gcd e.natAbs (1 + y).natAbs : Nat) : Int) ≤ 1 + y := Int.le_of_dvd (by omega) (Int.ofNat_dvd_left.mpr (Nat.gcd_dvd_right _ _))
      generalize hg : ((Nat.gcd e.natAbs (1 + y).natAbs : Nat) : Int) = g at g0 p1 p2 cop gq ⊢
      have bg : Bd 300 g := bq.mono (by decide) |>.le (by omega) gq
      refine ⟨_, rfl, _, rfl, _, rfl, d, f, n + 29, rfl, hf0, by omega, tp, by omega, fun S H7 s0 s1 sx7 tp7 => ?_⟩
      refine ⟨_, rfl, _, rfl, _, _, rfl, rfl, (by walk_at "div"), _, rfl, _, rfl, _, _, rfl, rfl, (by walk_at "div"), by show 4 ≤ sizeLine; decide, fun t nt => ?_⟩
      refine k t _ h S (e / g) ((1 + y) / g) ((sx.trans sx7).new nt) ((tp7.same (Same.new nt)).mono (by omega)) upd_same ⟨h1, hh, p1, by omega, be.div g0, cop⟩
end
end K21

set_option Elab.async false
set_option linter.all false
set_option maxRecDepth 100000
set_option maxHeartbeats 4000000
/-! Windows: != by their own ==, in. -/
namespace K21
open PySem PySem.Spec PyProof.Rows
/-- what the class of windows is asked beyond the facts of the head -/
class ExW (K : PySem.W.Frag) : Prop where
  cl : PySem.W.findIn K (.ref (He.ga K "Window")) "__class__" = some (some (.builtin "object.__class__"))
  gt : PySem.W.specialIn K (.builtin "object.__class__") "__get__" = some (some (.builtin "getset_descriptor.__get__"))
  tk : PySem.W.takesIn K (.builtin "object.__class__") = some true
  mr : PySem.W.mroIn K (He.ga K "Window") (.type "object") = some true
  ne : PySem.W.findIn K (.ref (He.ga K "Window")) "__ne__" = some (some (.builtin "object.__ne__"))
section
variable {prog : Program} {w : World} {A : Around} {E : Value → Shared → Prop} {s : Shared} {K : PySem.W.Frag} {x y C L f : Addr} {ox oy : Obj} {od od' : Option Obj}
open PySem.W in
theorem bound_builtin {M : Model} {A : Around} {name : Str} {id : String} {args : List Value} {Q : Option Value → Shared → Prop} (X : K.In s.heap) (I : InstAt s.heap x ox C od) (hs : findIn K (.ref C) name = some (some (.builtin id)))
    (hb : ∀ self, bindSpecial (.builtin id) self = pure (.builtin id, [self])) (h : wpAny M A (call (.builtin id) (.ref x :: args)) (fun v => Q (some v)) E s) : wpAny M A (callSpecialIfBound? (.ref x) name args) Q E s := by
  simp only [callSpecialIfBound?, bindSpecialIfBound?]
  refine wpAny_holding (wpAny_bind (wpAny_bind (wpAny_bind (I.type.here ((looks_findIn X hs).here ?_)))))
  refine wpAny_bind (wpAny_askSetting (wpAny_ite ?_))
  have fin : wpAny M A (call (.builtin id) ([.ref x] ++ args) >>= fun v => pure (some v)) Q E s := wpAny_bind (wpAny_mono h (fun v s' h' => wpAny_pure h') fun _ _ h' => h')
  split
  · exact wpAny_bind ((Looks.of_pure (hb _)).here (wpAny_pure (by exact fin)))
  · exact wpAny_tryCatch (wpAny_bind ((Looks.of_pure (hb _)).here (wpAny_pure (by exact fin))))
open PySem.W in
theorem ne_call {Q : Value → Shared → Prop} (hu : A.in1.units < cLine) (X : K.In s.heap) (I : InstAt s.heap x ox C od) (hm : mroIn K C (.type "object") = some true)
    (hs : findIn K (.ref C) "__eq__" = some (some (.ref f))) (hf : isFn K (.ref f) = true)
    (h : wpAny (model prog w) A.in1 (call (.ref f) [.ref x, .ref y]) (fun v s' => ∃ b, v = .bool b ∧ Q (.bool (!b)) s') E s) : wpAny (model prog w) A (call (.builtin "object.__ne__") [.ref x, .ref y]) Q E s := by
  refine wpAny_call (codeAny_call_builtin PySem.F.cmp_object.ne.plain PySem.F.cmpEntry_ne (check_slot (i := "object.__ne__") (owner := "object") (n := "__ne__") PySem.F.cmpKind_ne PySem.F.cmpSplit_ne (I.type.andThen (looks_mroIn X hm)) (PySem.F.cmpArgs_ne _ _) ?_))
  unfold Builtin.«object.__ne__»
  refine wpAny_bind (m := slotArgs "__ne__" 1 _) (wpAny_pure ?_)
  refine wpAny_bind (m := cRoomFor _ _) (wpAny_cRoomFor hu ?_)
  refine wpAny_bind (m := callSpecialIfBound? (.ref x) (Str.ofString "__eq__") _) (ifBound_K X I hs hf (wpAny_mono h (fun r s' hq => ?_) fun _ _ y => y))
  obtain ⟨b, rfl, hq⟩ := hq
  repeat (first | exact hq | exact wpAny_pure hq | exact wpAny_truthy_bool hq | (refine wpAny_bind (m := truthy (.bool _)) (wpAny_truthy_bool ?_)) | wp_step)
open PySem.W in
theorem ne_own {Q : Value → Shared → Prop} (hu : A.units + 1 < cLine) (hu1 : A.in1.units < cLine) (X : K.In s.heap) (I : InstAt s.heap x ox C od) (J : InstAt s.heap y oy C od') (hm : mroIn K C (.type "object") = some true)
    (hn : findIn K (.ref C) "__ne__" = some (some (.builtin "object.__ne__"))) (hs : findIn K (.ref C) "__eq__" = some (some (.ref f))) (hf : isFn K (.ref f) = true)
    (h : wpAny (model prog w) A.in1 (call (.ref f) [.ref x, .ref y]) (fun v s' => ∃ b, v = .bool b ∧ Q (.bool (!b)) s') E s) : wpAny (model prog w) A (compareOp .NotEq (.ref x) (.ref y)) Q E s := by
  have one : wpAny (model prog w) A (tryCompare (.ref x) "__ne__" (.ref y)) (fun r s' => ∃ v, r = some v ∧ Q v s') E s := by
    simp only [tryCompare]
    refine wpAny_bind (bound_builtin X I hn PySem.F.cmp_object.ne.bind (ne_call hu1 X I hm hs hf (wpAny_mono h (fun v s' hv => ?_) fun _ _ e => e)))
    obtain ⟨b, rfl, hv⟩ := hv
    exact ⟨b, rfl, wpAny_pure ⟨_, rfl, hv⟩⟩
  show wpAny (model prog w) A (richCompare .NotEq (.ref x) (.ref y)) Q E s
  unfold richCompare
  simp only [oneThing_ref]
  refine wpAny_holding (wpAny_bind (wpAny_cRoomFor (Nat.lt_of_succ_lt hu) ?_))
  rw [cmpInfo_NotEq]
  dsimp only
  refine wpAny_bind (I.type.here (wpAny_bind (J.type.here ?_)))
  rw [show (Value.ref C != Value.ref C) = false from by simp]
  simp only [Bool.false_eq_true, if_false]
  refine wpAny_bind (wpAny_pure ?_)
  simp only [Bool.false_eq_true, if_false]
  refine wpAny_bind (wpAny_mono one (fun r s' z => ?_) fun _ _ e => e)
  obtain ⟨v, rfl, hq⟩ := z
  exact wpAny_pure hq
end

section
open L2
variable {X : Cx} {k j : Nat} {C f : Addr} {fd : FuncData} {ps : List Str} {ds : List Value} {sp : Sp}
/-- a def runs below the body, at an inner place -/
theorem run_sub {A : Around} {E0 : XK} {CX : CXT} {pins : List (Addr × Obj)} {σ : L2.St} {H : Hp} {s : Shared} {Q : VK} {us : List Value} {vs : List V} (F : FnOk X.prog X.w X.K X.mg X.base CX k f fd ps sp) (sb : Sub X k A) (hb : Binds X.K fd ps []) (hx : Passes CX X E0)
    (I : Inv X pins σ H s) (r : Vals vs us) (h : sp vs H Q E0) : wpAny (model X.prog X.w) A (call (.ref f) us) (EP X pins σ Q) X.xe s := by
  have e0 : Env0 X.prog X.w X.K X.mg X.base A X.stack s H := by
    have e := I.env0
    exact ⟨by rw [sb.fr]; exact e.frames, e.mod, e.bs, e.bsz, e.funs, e.frf, e.hok, e.bare⟩
  have hl : (us ++ []).length = ps.length := by rw [List.append_nil, ← r.length]; exact F.len _ _ _ _ h
  refine wpAny_call (codeAny_mono (F.run A X.stack s H ⟨us, []⟩ us vs Q E0 sb.room e0 (by
    have := hb s us I.kIn hl
    simpa using this) r h) fun r s' hq => ?_)
  cases r with
  | error e => exact hx pins σ H s e s' I hq
  | ok fl =>
    cases fl with
    | ret u => exact I.after hq
    | next => exact False.elim hq
    | brk => exact False.elim hq
    | cont => exact False.elim hq
/-- a def that fills its places itself -/
theorem vals_nil : Vals ([] : List V) ([] : List Value) := .nil
theorem met_nil {P : Program} {w : World} {K : PySem.W.Frag} {mg : Str → Option Value} {base : Heap} {m : Str} (c : C8.Met P w K mg base k C m sp []) : ∃ (f : Addr) (fd : FuncData) (ps : List Str), Cls K C ∧ Meth K C m f ∧ FnOk P w K mg base C8.CX0 k f fd ps sp ∧ Binds K fd ps [] := by
  obtain ⟨f, fd, ps, ds, c, m, F, b, d⟩ := c.ex
  cases d
  exact ⟨f, fd, ps, c, m, F, b⟩
/-- x != y of two instances, by the class's own == -/
theorem op_neW (c : C8.Met X.prog X.w X.K X.mg X.base k C "__eq__" sp []) (hm : PySem.W.mroIn X.K C (.type "object") = some true) (hn : PySem.W.findIn X.K (.ref C) "__ne__" = some (some (.builtin "object.__ne__"))) (hr : Room j X.A) (hk : k + 1 ≤ j) :
    OpR X (compareOp .NotEq) (fun x y H Q => ∃ a b dx dy fs gs, x = .ref a ∧ y = .ref b ∧ H a = some (.ins C dx fs) ∧ H b = some (.ins C dy gs) ∧ sp [.ref a, .ref b] H (fun v H' => ∃ r, v = .bl r ∧ Q (.bl (!r)) H') C8.E0) := by
  intro pins s σ H x y v u Q I rx ry h
  obtain ⟨a, b, dx, dy, fs, gs, rfl, rfl, ha, hb, q⟩ := h
  cases rx
  cases ry
  obtain ⟨mA, J, _⟩ := ins_get I.hok ha
  obtain ⟨mB, J', _⟩ := ins_get I.hok hb
  obtain ⟨od, J, _⟩ := J.look
  obtain ⟨od', J', _⟩ := J'.look
  obtain ⟨f, fd, ps, cl, me, F, bi⟩ := met_nil c
  have hr' : Room (k + 1) X.A := hr.mono hk
  have sb : Sub X k X.A.in1 := Sub.in1 ⟨hr', rfl⟩
  refine ne_own (by have := hr'.units; omega) sb.room.units0 I.kIn J J' hm hn me.at_ me.fn (wpAny_mono (run_sub F sb bi C8.pass0 I (.cons (show L2.RelV (.ref a) (.ref a) from rfl) (.cons (show L2.RelV (.ref b) (.ref b) from rfl) .nil)) q) (fun r s' z => ?_) fun _ _ z => z)
  obtain ⟨w', H', I', rz, b, ez, q⟩ := z
  subst ez
  cases rz
  exact ⟨b, rfl, .bl (!b), H', I', rfl, q⟩
/-- x in y, by the class's own in -/
theorem op_inW (c : C8.Met X.prog X.w X.K X.mg X.base k C "__contains__" sp []) (hr : Room j X.A) (hk : k ≤ j) :
    OpR X (compareOp .In) (fun x y H Q => ∃ b dx fs, y = .ref b ∧ H b = some (.ins C dx fs) ∧ sp [.ref b, x] H (fun v H' => ∃ r, v = .bl r ∧ Q (.bl r) H') C8.E0) := by
  intro pins s σ H x y v u Q I rx ry h
  obtain ⟨b, dx, fs, rfl, hb, q⟩ := h
  cases ry
  obtain ⟨mA, J, _⟩ := ins_get I.hok hb
  obtain ⟨od, J, _⟩ := J.look
  obtain ⟨f, fd, ps, cl, me, F, bi⟩ := met_nil c
  obtain ⟨m, hF⟩ := I.fr
  refine PySem.W.in_K hF I.ok.mod.kin J me.at_ me.fn (wpAny_mono (run_sub F ⟨hr.mono hk, rfl⟩ bi C8.pass0 I (.cons (show L2.RelV (.ref b) (.ref b) from rfl) (.cons rx .nil)) q) (fun r s' z => ?_) fun _ _ z => z)
  obtain ⟨w', H', I', rz, b, ez, q⟩ := z
  subst ez
  cases rz
  exact wpAny_truthy_bool ⟨.bl b, H', I', rfl, q⟩
end
section
open L2
variable {P : Program} {w : World} {K : PySem.W.Frag} {mg : Str → Option Value} {base : Heap} [X : ExW K]
theorem ty_win (T : Txt K mg) {H : Hp} {p : Addr} {v : Win} (h : WinAt K H p v) : TyX K H (.ref p) (.ref (He.ga K "Window")) := by
  obtain ⟨dx, h⟩ := h
  exact .base (.ins h T.c_Window X.cl X.gt X.tk X.mr)
theorem kit_win : PySem.W.kitOne K (.ref (He.ga K "Window")) (.ref (He.ga K "Window")) = some true := by
  unfold PySem.W.kitOne
  rw [if_pos (by simp)]
theorem kit_winT : PySem.W.kitOne K (.type "tuple") (.type "tuple") = some true := by
  unfold PySem.W.kitOne
  rw [if_pos (by simp)]
end
end K21

set_option linter.all false
/-! The plain law of the windows of slow and resting courses. -/
namespace K21
theorem rest_each {c : Crs} (o : c.Ok) (z : c.e = 0) (x : Int) : c.each x ≤ 1 := by
  have m1 := o.m1
  have qm := o.qm
  have hd : c.d = c.m := by
    unfold Crs.d
    rw [z]
    simp
    omega
  unfold Crs.each Crs.r
  rw [hd]
  have r0 := Int.emod_nonneg (c.off x) (show c.m ≠ 0 by omega)
  have : (c.q - 1 - c.off x % c.m) / c.m < 1 := Int.ediv_lt_of_lt_mul (by omega) (by omega)
  omega
def winOf (c : Crs) (x : Int) : Win := if c.e = 0 then wn 1 0 (c.each x) else wn c.m (c.beg x) c.q
theorem emod_add_sub_zero {a b m : Int} (h : (a - b) % m = 0) : a % m = b % m := Int.emod_emod_of_dvd a (Int.dvd_refl m) ▸ (by
  have d := Int.dvd_of_emod_eq_zero h
  obtain ⟨t, ht⟩ := d
  have e : a = b + m * t := by omega
  rw [e, Int.add_mul_emod_self_left] <;> simp)
theorem slow_e {m e : Int} (g : (e - 1) % m = 0 ∨ (e + 1) % m = 0) : (e % m - 1) % m = 0 ∨ (e % m + 1) % m = 0 := by
  rcases g with g | g
  · left
    rw [Int.emod_sub_emod]
    exact g
  · right
    rw [Int.emod_add_emod]
    exact g
theorem slow_neg {m e : Int} (g : (e - 1) % m = 0 ∨ (e + 1) % m = 0) : (-e - 1) % m = 0 ∨ (-e + 1) % m = 0 := by
  rcases g with g | g
  · right
    rw [show -e + 1 = -(e - 1) by omega]
    exact Int.emod_eq_zero_of_dvd (Int.dvd_neg.mpr (Int.dvd_of_emod_eq_zero g))
  · left
    rw [show -e - 1 = -(e + 1) by omega]
    exact Int.emod_eq_zero_of_dvd (Int.dvd_neg.mpr (Int.dvd_of_emod_eq_zero g))
theorem win_slow {h S e q x : Int} (h1 : 1 ≤ h) (q1 : 1 ≤ q) (x0 : 0 ≤ x) (xh : x < h) (g : (e - 1) % (q * h) = 0 ∨ (e + 1) % (q * h) = 0) :
    ((nrm h S e q).e = 0 ∨ ((nrm h S e q).e - 1) % (nrm h S e q).m = 0 ∨ ((nrm h S e q).e + 1) % (nrm h S e q).m = 0) ∧ (winOf (nrm h S e q) x).q * h = (winOf (nrm h S e q) x).m ∧ 0 < (winOf (nrm h S e q) x).m ∧ 0 ≤ (winOf (nrm h S e q) x).q ∧ (winOf (nrm h S e q) x).q ≤ q ∧
    ∀ k : Nat, (((k : Int) - (winOf (nrm h S e q) x).z) % (winOf (nrm h S e q) x).m < (winOf (nrm h S e q) x).q ↔ (S + e * (k : Int)) / q % h = x) := by
  have vis := fun k => nrm_vis (h := h) (s := S) (e := e) (q := q) (x := x) h1 q1 x0 xh k
  have ok := nrm_ok (h := h) (s := S) (e := e) (q := q) h1 q1
  by_cases hh : h = 1
  · subst hh
    have m1 : (nrm 1 S e q).m = 1 := rfl
    have ez : (nrm 1 S e q).e = 0 := by
      have := ok.e0
      have := ok.em
      omega
    have q1' : (nrm 1 S e q).q = 1 := rfl
    have each : (nrm 1 S e q).each x = 1 := by
      have hd : (nrm 1 S e q).d = 1 := by
        unfold Crs.d
        rw [ez, m1]
        rfl
      unfold Crs.each Crs.r
      rw [hd, q1']
      omega
    have W : winOf (nrm 1 S e q) x = ⟨1, 0, 1⟩ := by
      unfold winOf
      rw [if_pos ez, each]
      rfl
    rw [W]
    refine ⟨Or.inl ez, rfl, by decide, by decide, q1, fun k => ?_⟩
    show ((k : Int) - 0) % 1 < 1 ↔ _
    omega
  · have hq : (nrm h S e q).q = q := if_pos (by omega)
    have hm : (nrm h S e q).m = q * h := by rw [nrm_m, if_pos (by omega)]
    have hq' : (if 1 < h then q else 1) = q := if_pos (by omega)
    have qm : 2 * q ≤ q * h := by
      have := Int.mul_le_mul_of_nonneg_left (show 2 ≤ h by omega) (show 0 ≤ q by omega)
      omega
    have sl : ((nrm h S e q).e - 1) % (q * h) = 0 ∨ ((nrm h S e q).e + 1) % (q * h) = 0 := by
      by_cases tn : h = 2 ∧ q < e % (q * h)
      · have he : (nrm h S e q).e = (-e) % (q * h) := by unfold nrm; simp only [hq', if_pos tn]
        rw [he]
        exact slow_e (slow_neg g)
      · have he : (nrm h S e q).e = e % (q * h) := by unfold nrm; simp only [hq', if_neg tn]
        rw [he]
        exact slow_e g
    have ez : ¬ (nrm h S e q).e = 0 := by
      intro z
      rw [z] at sl
      rcases sl with s | s
      · have := Int.emod_add_mul_ediv (0 - 1) (q * h)
        rw [s] at this
        have h2 : (0 - 1 : Int) / (q * h) < 0 := Int.ediv_neg_of_neg_of_pos (by decide) (by omega)
        have h3 := Int.mul_le_mul_of_nonneg_left (show (0 - 1 : Int) / (q * h) ≤ -1 by omega) (show 0 ≤ q * h by omega)
        omega
      · rw [Int.emod_eq_of_lt (by decide) (by omega)] at s
        omega
    have W : winOf (nrm h S e q) x = ⟨q * h, (nrm h S e q).beg x % (q * h), q⟩ := by
      unfold winOf
      rw [if_neg ez, hm, hq]
      unfold wn
      rw [if_pos ⟨by omega, by omega⟩]
    rw [W]
    refine ⟨Or.inr (by rw [hm]; exact sl), rfl, by show 0 < q * h; omega, by show 0 ≤ q; omega, Int.le_refl _, fun k => ?_⟩
    rw [← vis]
    show ((k : Int) - (nrm h S e q).beg x % (q * h)) % (q * h) < q ↔ _
    unfold Crs.vis
    rw [decide_eq_true_iff, hm, hq]
    unfold Crs.beg Crs.off
    rw [hm, hq]
    by_cases s : ((nrm h S e q).e - 1) % (q * h) = 0
    · rw [if_pos s, win_up]
      rw [rise_congr (emod_add_sub_zero s)]
    · rw [if_neg s, win_down (by omega) (by omega) (by omega)]
      have s2 : ((nrm h S e q).e - (-1)) % (q * h) = 0 := by
        rcases sl with z | z
        · exact absurd z s
        · exact z
      rw [rise_congr (emod_add_sub_zero s2)]
end K21

set_option Elab.async false
set_option linter.all false
set_option maxRecDepth 100000
set_option maxHeartbeats 4000000
set_option exponentiation.threshold 2000
/-! The walk: windows are right. -/
namespace K21
open PySem PySem.Spec PyProof.Rows L2
local macro_rules | `(tactic| walk_at "pos") => `(tactic| first | assumption | ((with_reducible show (0 : Int) < _); first | assumption | omega | decide) | decide)
local macro_rules | `(tactic| walk_at "b") => `(tactic| (repeat' (first | ((with_reducible show Bd _ _); first | assumption | exact Bd.lit64 (by decide) | (refine' Bd.add ?_ ?_) | (refine' Bd.sub ?_ ?_) | (refine' Bd.mul ?_ ?_) | (refine' Bd.neg ?_) | (refine' Bd.div ?_ ?_) | (refine' Bd.mod ?_ ?_)) | ((with_reducible show (_ : Int) < _); first | assumption | omega))))
local macro_rules | `(tactic| walk_at "mul") => `(tactic| exact Bd.mulW (by walk_at "b") (by walk_at "b") (by decide))
local macro_rules | `(tactic| walk_at "div") => `(tactic| exact Bd.divW (by walk_at "pos") (by walk_at "b") (by decide))
theorem cop_one {q h : Int} (q0 : 0 ≤ q) (h0 : 0 ≤ h) : Nat.gcd q.natAbs (1 + h * q).natAbs = 1 := by
  obtain ⟨a, rfl⟩ := Int.eq_ofNat_of_zero_le q0
  obtain ⟨b, rfl⟩ := Int.eq_ofNat_of_zero_le h0
  have e : (1 + (b : Int) * (a : Int)).natAbs = 1 + b * a := by
    rw [← Int.natCast_mul]
    omega
  rw [e]
  show Nat.gcd a (1 + b * a) = 1
  have d1 : Nat.gcd a (1 + b * a) ∣ b * a := Nat.dvd_trans (Nat.gcd_dvd_left _ _) (Nat.dvd_mul_left _ _)
  have d2 : Nat.gcd a (1 + b * a) ∣ 1 + b * a := Nat.gcd_dvd_right _ _
  exact Nat.dvd_one.mp ((Nat.dvd_add_left d1).mp d2)
section
variable {P : Program} {w : World} {K : PySem.W.Frag} {mg : Str → Option Value} {base : Heap} [XW : ExW K]
def sp_W_eq (K : PySem.W.Frag) : Sp := fun vs H Q _ => ∃ (p q : Addr) (v : Win), vs = [.ref p, .ref q] ∧ WinAt K H p v ∧ WinAt K H q v ∧ ∀ H', Same H H' → Q (.bl true) H'
theorem sc_W_eq : FnScope ["self", "other"] ["self", "other"] (C8.fnScope s_W_eq) := C8.fnScope_by (by decide +kernel)
theorem met_W_eq (T : Txt K mg) : C8.Met P w K mg base 1 (He.ga K "Window") "__eq__" (sp_W_eq K) [] := by
  refine met_mk T.c_Window T.m_W_eq (T.D_W_eq) (fun _ _ _ _ _ _ us hl => match us, hl with | [_, _], _ => rfl) sc_W_eq (fun vs H Q E h => ?_) (fun cdv A outer s H vs Q E hr h => ?_)
  · obtain ⟨p, q, v, rfl, _⟩ := h
    rfl
  · obtain ⟨p, q, v, rfl, ⟨dx, hp⟩, ⟨dy, hq⟩, k⟩ := h
    refine ⟨_, (pss_cons (ps_if (pt_not (pt_val (pe_callB call_isi (by rfl) T.f_isinstance b_isinstance (pa_cons (pv 1) (pa_cons (pe_glob (v := .ref (He.ga K "Window")) (by rfl) T.g_Window rfl) pa_nil))))) (pss_one (ps_ret pe_bl))
      pss_nil)
      (pss_one (ps_ret (pe_cmpR (op_eqD hr.units) (pe_tup (pa_cons (pe_fld (pv 0) rfl) (pa_cons (pe_fld (pv 0) rfl) (pa_cons (pe_fld (pv 0) rfl) pa_nil)))) (pe_tup (pa_cons (pe_fld (pv 1) rfl) (pa_cons (pe_fld (pv 1) rfl) (pa_cons (pe_fld (pv 1) rfl) pa_nil)))) (nomark _))))), ?_⟩
    refine ⟨_, rfl, _, _, _, _, true, rfl, .own _, ty_win (K := K) T ⟨dy, hq⟩, kit_win (K := K), _, rfl, iteF ?_⟩
    refine ⟨_, rfl, _, _, _, _, _, rfl, hp, T.c_Window, T.n_Window_period, F_Window_period _, _, rfl, _, _, _, _, _, rfl, hp, T.c_Window, T.n_Window_first, F_Window_first _, _, rfl, _, _, _, _, _, rfl, hp, T.c_Window, T.n_Window_length, F_Window_length _, by show 3 ≤ sizeLine; decide, fun t1 n1 => ?_⟩
    have hq1 : upd H t1 (.tup [.int v.m, .int v.z, .int v.q]) q = some (.ins (He.ga K "Window") dy (winF v)) := Same.new n1 _ _ hq
    refine ⟨_, rfl, _, _, _, _, _, rfl, hq1, T.c_Window, T.n_Window_period, F_Window_period _, _, rfl, _, _, _, _, _, rfl, hq1, T.c_Window, T.n_Window_first, F_Window_first _, _, rfl, _, _, _, _, _, rfl, hq1, T.c_Window, T.n_Window_length, F_Window_length _, by show 3 ≤ sizeLine; decide, fun t2 n2 => ?_⟩
    have e12 : t1 ≠ t2 := fun z => by rw [← z, upd_same] at n2; cases n2
    have D : ∀ {H' : Hp} {t : Addr}, H' t = some (.tup [.int v.m, .int v.z, .int v.q]) → Dp K H' (.ref t) (.tuple [.int v.m, .int v.z, .int v.q]) := fun e => .tup (SqT.of e) (.cons (.int _) (.cons (.int _) (.cons (.int _) .nil)))
    refine ⟨_, _, D (t := t1) (by rw [upd_ne e12, upd_same]), D (t := t2) upd_same, rfl, rfl, ?_⟩
    have e : PyData.eqv (.tuple [.int v.m, .int v.z, .int v.q]) (.tuple [.int v.m, .int v.z, .int v.q]) = true := by simp [PyData.eqv, PyData.eqvAll]
    rw [e]
    exact k _ ((Same.new n1).add n2)

def sp_L_window_right : Sp := fun vs H Q _ => ∃ (d : Addr) (n : Nat), vs = [.ref d] ∧ Tape H d n ∧ n + 200 ≤ 1000000 ∧ ∀ H', SameX d H H' → Tape H' d (n + 200) → Q (.bl true) H'
theorem sc_L_window_right : FnScope ["_law_tape", "_law_houses", "_law_start", "_law_run", "_law_rise", "_law_told", "_law_house_here", "_law_window", "_law_turn", "_law_k"] ["_law_tape"] (C8.fnScope s_L_window_right) := C8.fnScope_by (by decide +kernel)
theorem cal_L_window_right (T : Txt K mg) : C8.Cal P w K mg base 8 "_law_window_right" sp_L_window_right [] := by
  refine cal_mk (T.D_L_window_right) (T.g_L_window_right) (fun _ _ _ _ _ _ us hl => match us, hl with | [_], _ => rfl) sc_L_window_right (fun vs H Q E h => ?_) (fun cdv A outer s H vs Q E hr h => ?_)
  · obtain ⟨d, n, rfl, _⟩ := h
    rfl
  · obtain ⟨d, n, rfl, tp, nn, k⟩ := h
    have t30 := ten_pos 30
    refine ⟨_, (pss_cons (ps_par3 (i := 1) (j := 2) (l := 3) (by rfl) sc_L_window_right.nd rfl rfl rfl (by decide) (by decide) (by decide) rfl rfl rfl (pa_cons (pe_op op_add pe_int (C8.pe_c (cal_L_size T) hr (by decide) rfl (pa_cons (pv 0) (pa_cons pe_int pa_nil)))) (pa_cons (C8.pe_c (cal_L_signed T) hr (by decide) rfl (pa_cons (pv 0) (pa_cons pe_int pa_nil))) (pa_cons (pe_op op_add pe_int (C8.pe_c (cal_L_size T) hr (by decide) rfl (pa_cons (pv 0) (pa_cons pe_int pa_nil)))) pa_nil))) (by rfl))
      (pss_cons (ps_set (i := 4) sc_L_window_right.nd rfl (Or.inl rfl) (C8.pe_c (cal_L_pick T) hr (by decide) rfl (pa_cons (pv 0) (pa_cons (pe_lst (pa_cons pe_int (pa_cons (pe_un un_neg pe_int) (pa_cons (pe_op op_add pe_int (pe_op op_mulW (pv 1) (pv 3))) (pa_cons (pe_op op_sub (pe_un un_neg pe_int) (pe_op op_mulW (pv 1) (pv 3))) pa_nil))))) pa_nil))))
      (pss_cons (ps_par (i := 5) (j := 6) (by rfl) sc_L_window_right.nd rfl rfl (by decide) rfl rfl (pa_cons (pe_tup (pa_cons (pv 1) (pa_cons (pv 2) (pa_cons (pv 4) (pa_cons (pv 3) pa_nil))))) (pa_cons (pe_op op_mod (pe_callTy call_intI (by rfl) T.f_int b_int (pa_cons (C8.pe_c (cal_L_size T) hr (by decide) rfl (pa_cons (pv 0) (pa_cons pe_int pa_nil))) pa_nil)) (pv 1)) pa_nil)) (by rfl))
      (pss_cons (ps_set (i := 7) sc_L_window_right.nd rfl (Or.inl rfl) (C8.pe_mt (met_C_window T) hr (by decide) (C8.pe_mk (mak_Course T) hr (by decide) rfl (pa_cons (pv 1) (pa_cons (pv 2) (pa_cons (pv 4) (pa_cons (pv 3) pa_nil))))) (pa_cons (pv 6) pa_nil)))
      (pss_cons (ps_if (PW.pt (pw_or (pt_not (pt_val (pe_callB call_isi (by rfl) T.f_isinstance b_isinstance (pa_cons (pv 7) (pa_cons (pe_glob (v := .ref (He.ga K "Window")) (by rfl) T.g_Window rfl) pa_nil))))) (pw_or1 (pt_cmpR op_ne (pe_op op_mulW (pe_fld (pv 7) rfl) (pv 1)) (pe_fld (pv 7) rfl) (nomark _))))) (pss_one (ps_ret pe_bl))
      pss_nil)
      (pss_cons (ps_for PassesOwn.never rfl (pi_range1 rfl T.f_range (pa_cons pe_int pa_nil)) (pg_name (i := 8) sc_L_window_right.nd rfl (Or.inl rfl))
      (pss_cons (ps_set (i := 9) sc_L_window_right.nd rfl (Or.inl rfl) (C8.pe_c (cal_L_pick T) hr (by decide) rfl (pa_cons (pv 0) (pa_cons (pe_lst (pa_cons (C8.pe_c (cal_L_size T) hr (by decide) rfl (pa_cons (pv 0) (pa_cons pe_int pa_nil))) (pa_cons (C8.pe_c (cal_L_size T) hr (by decide) rfl (pa_cons (pv 0) (pa_cons pe_int pa_nil))) (pa_cons (pe_callB (call_max2 rfl) (by rfl) T.f_max b_max (pa_cons pe_int (pa_cons (pe_op op_sub (pe_op op_mulW (pv 6) (pv 3)) (pv 2)) pa_nil))) (pa_cons (pe_callB call_abs (by rfl) T.f_abs b_abs (pa_cons (pv 2) pa_nil)) pa_nil))))) pa_nil))))
      (pss_one (ps_if (pt_not (pt_val (C8.pe_c (cal_L_truth T) hr (by decide) rfl (pa_cons (pe_cmpR (op_inW (met_W_contains T) hr (by decide)) (pv 9) (pv 7) rfl) (pa_cons (pe_cmpR op_eq (C8.pe_c (cal_L_house T) hr (by decide) rfl (pa_cons (pv 5) (pa_cons (pv 9) pa_nil))) (pv 6) (nomark _)) pa_nil))))) (pss_one (ps_ret pe_bl))
      pss_nil))))
      (pss_one (ps_ret pe_bl)))))))), ?_⟩
    refine ⟨_, rfl, d, 30, n, rfl, by decide, by decide, tp, by omega, fun a H1 a0 a1 sx1 tp1 => ⟨_, _, rfl, rfl, ?_⟩⟩
    refine ⟨_, rfl, d, 30, n + 8, rfl, by decide, by decide, tp1, by omega, fun S H2 s0 s1 sx2 tp2 => ?_⟩
    refine ⟨_, rfl, d, 30, n + 17, rfl, by decide, by decide, tp2, by omega, fun b H3 b0 b1 sx3 tp3 => ⟨_, _, rfl, rfl, _, _, _, rfl, ?_⟩⟩
    have h1 : 1 ≤ 1 + a := by omega
    have q1 : 1 ≤ 1 + b := by omega
    have bh : Bd 110 (1 + a) := bd_10 (f := 30) (by omega) (by omega) (by decide)
    have bq : Bd 110 (1 + b) := bd_10 (f := 30) (by omega) (by omega) (by decide)
    refine ⟨_, rfl, _, rfl, _, rfl, _, rfl, _, _, rfl, rfl, (by walk_at "mul"), _, _, rfl, rfl, _, rfl, _, rfl, _, rfl, _, _, rfl, rfl, (by walk_at "mul"), _, _, rfl, rfl, by show 4 ≤ sizeLine; decide, fun l nl => ?_⟩
    refine ⟨d, l, _, n + 25, rfl, tp3.same (Same.new nl), by omega, upd_same, by show 1 ≤ 4; decide, by show 4 ≤ 100; decide, fun v H4 hv sx4 tp4 => ?_⟩
    obtain ⟨e, rfl, cop, slow, be⟩ : ∃ e : Int, v = .int e ∧ Nat.gcd (1 + b).natAbs e.natAbs = 1 ∧ ((e - 1) % ((1 + b) * (1 + a)) = 0 ∨ (e + 1) % ((1 + b) * (1 + a)) = 0) ∧ Bd 700 e := by
      have bm : Bd 220 ((1 + a) * (1 + b)) := Bd.mul bh bq
      simp only [List.mem_cons, List.not_mem_nil, or_false] at hv
      rcases hv with e | e | e | e
      · exact ⟨1, e, Nat.gcd_one_right _, Or.inl rfl, (Bd.lit64 (by decide)).mono (by decide)⟩
      · exact ⟨-1, e, Nat.gcd_one_right _, Or.inr rfl, (Bd.lit64 (by decide)).mono (by decide)⟩
      · refine ⟨_, e, cop_one (by omega) (by omega), Or.inl ?_, (Bd.add (Bd.lit64 (x := 1) (by decide)) bm).mono (by decide)⟩
        rw [Int.mul_comm (1 + b) (1 + a), show 1 + (1 + a) * (1 + b) - 1 = (1 + a) * (1 + b) by omega]
        exact Int.emod_self
      · refine ⟨_, e, ?_, Or.inr ?_, (Bd.sub (Bd.lit64 (x := -1) (by decide)) bm).mono (by decide)⟩
        · rw [show -1 - (1 + a) * (1 + b) = -(1 + (1 + a) * (1 + b)) by omega, Int.natAbs_neg]
          exact cop_one (by omega) (by omega)
        · rw [Int.mul_comm (1 + b) (1 + a), show -1 - (1 + a) * (1 + b) + 1 = (1 + a) * (1 + b) * -1 by omega]
          exact Int.mul_emod_right _ _
    have SX4 : SameX d H H4 := (((sx1.trans sx2).trans sx3).new nl).trans sx4
    clear hv sx4 nl tp3 tp2 tp1 tp sx1 sx2 sx3
    refine ⟨_, rfl, _, rfl, _, rfl, _, rfl, by show 4 ≤ sizeLine; decide, fun tt ntt => ?_⟩
    have hT : upd H4 tt (.tup [.int (1 + a), .int S, .int e, .int (1 + b)]) tt = some (.tup [.int (1 + a), .int S, .int e, .int (1 + b)]) := upd_same
    have tp5 := tp4.same (Same.new (o := .tup [.int (1 + a), .int S, .int e, .int (1 + b)]) ntt)
    have SX5 := SX4.new (o := .tup [.int (1 + a), .int S, .int e, .int (1 + b)]) ntt
    generalize upd H4 tt (.tup [.int (1 + a), .int S, .int e, .int (1 + b)]) = H5 at hT tp5 SX5 ⊢
    have ttd : tt ≠ d := by
      obtain ⟨c, a, r, ys, hd, _⟩ := tp5.ex
      exact ne_of hT hd (fun z => by cases z)
    refine ⟨_, rfl, d, 30, n + 26, rfl, by decide, by decide, tp5, by omega, fun y H6 y0 y1 sx6 tp6 => ⟨_, rfl, _, rfl, _, _, rfl, rfl, by omega, _, _, rfl, ?_⟩⟩
    have hT6 := sx6 _ _ ttd hT
    have x0 := Int.emod_nonneg y (show 1 + a ≠ 0 by omega)
    have xh := Int.emod_lt_of_pos y (show 0 < 1 + a by omega)
    obtain ⟨w1, w2, w3, w5, w6, w4⟩ := win_slow (S := S) h1 q1 x0 xh slow
    have ok := nrm_ok (h := 1 + a) (s := S) (e := e) (q := 1 + b) h1 q1
    have sm : (nrm (1 + a) S e (1 + b)).Sm := nrm_sm h1 q1 (bh.mono (by decide)) (bq.mono (by decide))
    refine ⟨_, rfl, _, rfl, _, rfl, _, rfl, fun p dx np ndx ne => ?_⟩
    refine ⟨p, dx, 1 + a, S, e, 1 + b, rfl, h1, q1, cop, bh.mono (by decide), bq.mono (by decide), upd_same, rfl, ?_⟩
    refine ⟨_, _, _, rfl, upd_same, rfl, _, rfl, p, nrm (1 + a) S e (1 + b), y % (1 + a), rfl, ⟨_, upd_same⟩, sm, x0, xh, fun z => rest_each ok z _, w1, fun q H7 s7 hq => ?_⟩
    have S7 : Same H6 H7 := (same_made np ndx).trans s7
    have hq' : WinAt K H7 q (winOf (nrm (1 + a) S e (1 + b)) (y % (1 + a))) := hq
    have tp7 := tp6.same S7
    have hT7 := S7 _ _ hT6
    have SX7 := (SX5.trans sx6).trans (SameX.of S7)
    clear hq s7 S7 hT6 tp6 hT tp5 sx6 SX5 SX4
    generalize winOf (nrm (1 + a) S e (1 + b)) (y % (1 + a)) = W at w2 w3 w4 w5 w6 hq'
    obtain ⟨dy, hq⟩ := hq'
    have Wq : CMulW W.q (1 + a) := Bd.mulW (bq.le w5 w6) bh
    refine ⟨_, rfl, _, _, _, _, true, rfl, .own _, ty_win (K := K) T ⟨dy, hq⟩, kit_win (K := K), _, rfl, iteF ?_⟩
    refine ⟨_, rfl, _, _, _, _, _, rfl, hq, T.c_Window, T.n_Window_length, F_Window_length _, _, rfl, _, _, rfl, rfl, Wq, _, rfl, _, _, _, _, _, rfl, hq, T.c_Window, T.n_Window_period, F_Window_period _, rfl, _, rfl, ?_⟩
    refine ite2 (fun g => ?_) (fun _ => ?_)
    · exfalso
      have g' : (!decide (V.int (W.q * (1 + a)) = V.int W.m)) = true := g
      rw [w2] at g'
      simp at g'
    refine ⟨3, rfl, by decide, by decide, ?_⟩
    refine for_range (fun i σ H' => ∃ (v8 v9 : Option V), σ = [some (.ref d), some (.int (1 + a)), some (.int S), some (.int (1 + b)), some (.int e), some (.ref tt), some (.int (y % (1 + a))), some (.ref q), v8, v9] ∧ Tape H' d (n + 34 + 17 * i) ∧
      H' q = some (.ins (He.ga K "Window") dy (winF W)) ∧ H' tt = some (.tup [.int (1 + a), .int S, .int e, .int (1 + b)]) ∧ SameX d H H') ⟨none, none, rfl, tp7, hq, hT7, SX7⟩ ?_ ?_
    · rintro i σ H' hi ⟨v8, v9, rfl, tp, hq, hT, SX⟩
      have i3 : i < 3 := hi
      have qd : q ≠ d := by
        obtain ⟨c, a, r, ys, hd, _⟩ := tp.ex
        exact ne_of hq hd (fun z => by cases z)
      refine ⟨_, rfl, _, rfl, d, 60, n + 34 + 17 * i, rfl, by decide, by decide, tp, by omega, fun k1 H1 z10 z11 sx1 tp1 => ?_⟩
      refine ⟨_, rfl, d, 60, n + 34 + 17 * i + 8, rfl, by decide, by decide, tp1, by omega, fun k2 H2 z20 z21 sx2 tp2 => ?_⟩
      have hq2 := sx2 _ _ qd (sx1 _ _ qd hq)
      have hT2 := sx2 _ _ ttd (sx1 _ _ ttd hT)
      refine ⟨_, rfl, _, rfl, _, _, rfl, rfl, ?_, _, rfl, _, _, rfl, rfl, _, _, rfl, _, rfl, _, rfl, by show 4 ≤ sizeLine; decide, fun l nl => ?_⟩
      · have bx : Bd 110 (y % (1 + a)) := bh.le x0 (Int.le_of_lt xh)
        exact Bd.mulW bx bq
      refine ⟨d, l, _, n + 34 + 17 * i + 16, rfl, tp2.same (Same.new nl), by omega, upd_same, by show 1 ≤ 4; decide, by show 4 ≤ 100; decide, fun v H3 hv sx3 tp3 => ?_⟩
      obtain ⟨kk, rfl, k0, bk⟩ : ∃ kk : Int, v = .int kk ∧ 0 ≤ kk ∧ Bd 700 kk := by
        have bS : Bd 110 S := bd_10 (f := 30) (by omega) (by omega) (by decide)
        have bx : Bd 110 (y % (1 + a)) := bh.le x0 (Int.le_of_lt xh)
        have b6 : Bd 200 ((10 : Int) ^ 60) := bd_ten (by decide)
        have bm := Bd.sub (Bd.mul bx bq) bS
        simp only [List.mem_cons, List.not_mem_nil, or_false] at hv
        rcases hv with e | e | e | e
        · exact ⟨_, e, z10, (b6.le z10 (Int.le_of_lt z11)).mono (by decide)⟩
        · exact ⟨_, e, z20, (b6.le z20 (Int.le_of_lt z21)).mono (by decide)⟩
        · refine ⟨_, e, ?_, ?_⟩
          · show 0 ≤ (if y % (1 + a) * (1 + b) - S > 0 then y % (1 + a) * (1 + b) - S else 0)
            split <;> omega
          · show Bd 700 (if y % (1 + a) * (1 + b) - S > 0 then y % (1 + a) * (1 + b) - S else 0)
            split
            · exact bm.mono (by decide)
            · exact (Bd.lit64 (by decide)).mono (by decide)
        · refine ⟨_, e, ?_, ?_⟩
          · show 0 ≤ (if S < 0 then -S else S)
            split <;> omega
          · show Bd 700 (if S < 0 then -S else S)
            split
            · exact bS.neg.mono (by decide)
            · exact bS.mono (by decide)
      have lq : q ≠ l := ne_of_none hq2 nl
      have lt : tt ≠ l := ne_of_none hT2 nl
      have hq3 := sx3 q _ qd (by rw [upd_ne lq]; exact hq2)
      have hT3 := sx3 tt _ ttd (by rw [upd_ne lt]; exact hT2)
      obtain ⟨kn, rfl⟩ := Int.eq_ofNat_of_zero_le k0
      refine ⟨_, rfl, _, rfl, q, dy, _, rfl, hq3, q, kn, W, rfl, ⟨dy, hq3⟩, k0, w3, _, rfl, ?_⟩
      refine ⟨_, rfl, _, rfl, tt, 1 + a, S, e, 1 + b, kn, rfl, hT3, by omega, by omega, bh.mono (by decide), bq.mono (by decide), be, bk, ?_⟩
      refine ⟨_, rfl, rfl, _, _, rfl, _, rfl, ?_⟩
      refine ite2 (fun g => ?_) (fun _ => ?_)
      · exfalso
        have g' : (!decide (decide (((kn : Int) - W.z) % W.m < W.q) = decide (V.int ((S + e * (kn : Int)) / (1 + b) % (1 + a)) = V.int (y % (1 + a))))) = true := g
        have ee : decide (((kn : Int) - W.z) % W.m < W.q) = decide (V.int ((S + e * (kn : Int)) / (1 + b) % (1 + a)) = V.int (y % (1 + a))) := by
          rw [dec_int0]
          exact decide_eq_decide.mpr (w4 kn)
        rw [decide_eq_true ee] at g'
        cases g'
      · exact ⟨some (.int i), some (.int kn), by simp, tp3.mono (by omega), hq3, hT3, (((SX.trans sx1).trans sx2).new nl).trans sx3⟩
    · rintro σ H' ⟨v8, v9, rfl, tp, hq, hT, SX⟩
      exact k _ SX (tp.mono (by omega))
end
end K21

set_option linter.all false
set_option maxRecDepth 100000
/-! What the laws of gaps ask: told gaps and the next visit; comprehensions over pairs; equality of data. -/
namespace K21
open PySem PySem.Spec PyProof.Rows L2
/-! ### told gaps -/
theorem Told.lens {f : Nat → Bool} {M : Nat} {B : Int} {L : List (Int × Int)} (T : Told f M B L) : (L.map (·.1)).Pairwise (· < ·) := List.pairwise_map.mpr T.asc
theorem IsNx.lt {f : Nat → Bool} {g : Nat → Int} {M k t : Nat} (G : Gp f g M) (h : IsNx f k t) : t < M := by
  obtain ⟨u, hu, e⟩ := G.ex k
  rcases Nat.lt_or_ge u t with z | z
  · rw [h.2 u z] at e
    cases e
  · omega
theorem told_next {f : Nat → Bool} {M : Nat} {B : Int} {L : List (Int × Int)} (T : Told f M B L) {k t t2 : Nat} (h1 : IsNx f k t) (h2 : IsNx f (k + t + 1) t2) : ((1 + t2 : Nat) : Int) ∈ L.map (·.1) := by
  obtain ⟨g, G, hg, _⟩ := T.gap
  have p := G.pos _ h1.1
  have hit := G.hit _ h1.1
  have h3 : IsNx f (k + t + 1) ((g (k + t)).toNat - 1) := by
    refine ⟨?_, fun j hj => ?_⟩
    · rw [show k + t + 1 + ((g (k + t)).toNat - 1) = k + t + (g (k + t)).toNat by omega]
      exact hit
    · rw [show k + t + 1 + j = k + t + (1 + j) by omega]
      exact G.none _ _ h1.1 (by omega) (by omega)
  have e := h2.uniq h3
  have := hg _ h1.1
  rw [show ((1 + t2 : Nat) : Int) = g (k + t) by omega]
  exact this
theorem Told.le {f : Nat → Bool} {M : Nat} {B : Int} {L : List (Int × Int)} (T : Told f M B L) {a : Int × Int} (h : a ∈ L) : a.1 ≤ M ∧ a.2 ≤ M := by
  have key : ∀ l : List (Int × Int), (∀ b ∈ l, 0 < b.1 ∧ 0 < b.2) → a ∈ l → a.1 * a.2 ≤ (l.map (fun a => a.1 * a.2)).sum ∧ 0 ≤ (l.map (fun a => a.1 * a.2)).sum := by
    intro l
    induction l with
    | nil => intro _ h; cases h
    | cons b r ih =>
      intro hp h
      have hb := hp b List.mem_cons_self
      have b0 : 0 < b.1 * b.2 := Int.mul_pos hb.1 hb.2
      have rest : 0 ≤ (r.map (fun a => a.1 * a.2)).sum := by
        clear ih h
        induction r with
        | nil => exact Int.le_refl 0
        | cons c r ih =>
          have hc := hp c (List.mem_cons_of_mem _ List.mem_cons_self)
          have c0 : 0 < c.1 * c.2 := Int.mul_pos hc.1 hc.2
          have := ih fun x hx => hp x (by rcases List.mem_cons.mp hx with z | z <;> simp [z])
          rw [List.map_cons, List.sum_cons]
          omega
      rw [List.map_cons, List.sum_cons]
      rcases List.mem_cons.mp h with z | z
      · subst z
        omega
      · have := (ih (fun x hx => hp x (List.mem_cons_of_mem _ hx)) z).1
        omega
  have p := T.pos a h
  have l := (key L T.pos h).1
  rw [T.turn] at l
  have h1 := Int.mul_le_mul_of_nonneg_left (show 1 ≤ a.2 by omega) (show 0 ≤ a.1 by omega)
  have h2 := Int.mul_le_mul_of_nonneg_right (show 1 ≤ a.1 by omega) (show 0 ≤ a.2 by omega)
  omega
theorem all_true {α : Type} (xs : List α) : (xs.map fun _ => true).all id = true := by
  rw [List.all_map, List.all_eq_true]
  exact fun _ _ => rfl
theorem any_false {α : Type} (xs : List α) : (xs.map fun _ => false).any id = false := by
  rw [List.any_map, List.any_eq_false]
  exact fun _ _ z => by cases z
theorem sorted_eq {ns' ns : List Int} (p : ns'.Perm ns) (h : ns'.Pairwise (· ≤ ·)) (s : ns.Pairwise (· < ·)) : ns' = ns :=
  List.Perm.eq_of_pairwise (le := (· ≤ ·)) (fun a b _ _ h1 h2 => by omega) h (s.imp fun h => Int.le_of_lt h) p
/-! ### data -/
theorem dp_ints {K : PySem.W.Frag} {H : Hp} : ∀ ns : List Int, DpAll K H (ns.map V.int) (ns.map PyData.int)
  | [] => .nil
  | _ :: r => .cons (.int _) (dp_ints r)
theorem eqv_ints : ∀ ns : List Int, PyData.eqvAll (ns.map PyData.int) (ns.map PyData.int) = true
  | [] => rfl
  | n :: r => by simp [PyData.eqvAll, PyData.eqv, eqv_ints r]
theorem inV_int {v : Int} {ns : List Int} (h : v ∈ ns) : inV (.int v) (ns.map V.int) = true := by
  unfold inV
  rw [List.any_map, List.any_eq_true]
  exact ⟨v, h, by simp [eqV]⟩
theorem flat_ints (ns : List Int) : (ns.map V.int).all flatV = true := by
  rw [List.all_map, List.all_eq_true]
  exact fun _ _ => rfl
/-! ### len, the reading by name -/
def rLenQ (K : PySem.W.Frag) : List V → Hp → VK → Prop := fun xs H Q => ∃ p ys, xs = [.ref p] ∧ (SqL K H p ys ∨ SqT K H p ys) ∧ Q (.int ys.length) H
theorem call_lenQ {X : Cx} : CallR X (.builtin "len") (rLenQ X.K) := call_len_seq
/-! ### a list made of pairs -/
theorem lc_prs {K : PySem.W.Frag} {te : TE} {σ : L2.St} {H : Hp} {D a : Addr} {xs : List V} {L : List (Int × Int)} {i j : Nat} {Qd : Hp → Prop} (F : Int × Int → V) (ha : H a = some (.tup xs)) (hp : Prs H xs L) (nD : H D = none) (hL : L.length ≤ 1000)
    (hw : ∀ v w, wipe (((wipe σ [i, j]).set i (some v)).set j (some w)) [i, j] = wipe σ [i, j])
    (he : ∀ b H' Q, b ∈ L → Q (F b) H' → te (((wipe σ [i, j]).set i (some (.int b.1))).set j (some (.int b.2))) H' Q) (hd : Qd (upd H D (.lst (L.map F)))) :
    ∃ W : Nat → Nat → Hp → Prop, (∃ m, W 0 m (upd H D (.lst []))) ∧ ∀ i' m H, W i' m H →
      ((Itt K a).stop i' H ∧ Qd H) ∨ ((Itt K a).go i' H ∧ ∃ Nx : Hp → Prop, (∀ H', Nx H' → ∃ m', m' < m ∧ W (i' + 1) m' H') ∧ ∀ x H', (Itt K a).yld i' H x H' → gTup K 2 (gCons (gName i) (gCons (gName j) gNil)) x (wipe σ [i, j]) H' fun σ2 H2 => wipe σ2 [i, j] = wipe σ [i, j] ∧ tYes σ2 H2 fun b H3 =>
        if b = true then te σ2 H3 fun y H4 => ∃ acc, H4 D = some (.lst acc) ∧ acc.length < sizeLine ∧ Nx (upd H4 D (.lst (acc ++ [y]))) else Nx H3) := by
  refine lc_tup (K := K) (a := a) (xs := xs) (fun k H' => H' = upd H D (.lst ((L.take k).map F))) rfl (fun k H' _ e => ?_) ?_ ?_
  · subst e
    exact SqT.of (Same.new nD _ _ ha)
  · rintro k y H' hy rfl
    obtain ⟨t, b, eb, rfl, ht⟩ := hp.get hy
    refine ⟨t, _, rfl, SqT.of (Same.new nD _ _ ht), rfl, _, _, rfl, _, _, rfl, rfl, hw _ _, ?_⟩
    unfold tYes
    dsimp only []
    rw [if_pos rfl]
    refine he b _ _ (List.mem_of_getElem? eb) ⟨_, upd_same, ?_, ?_⟩
    · rw [List.length_map, List.length_take]
      exact Nat.lt_of_le_of_lt (show min k L.length ≤ 1000 by omega) (by decide)
    · show upd (upd H D _) D _ = _
      rw [upd_upd, take_succ_get eb, List.map_append]
      rfl
  · rintro H' rfl
    rw [hp.len, List.take_length]
    exact hd
/-- over a tuple, each item by F -/
theorem lc_tupF {K : PySem.W.Frag} {te : TE} {σ : L2.St} {H : Hp} {D a : Addr} {xs : List V} {i : Nat} {Qd : Hp → Prop} (F : V → V) (ha : H a = some (.tup xs)) (nD : H D = none) (hL : xs.length ≤ 1000)
    (hw : ∀ v, wipe ((wipe σ [i]).set i (some v)) [i] = wipe σ [i]) (he : ∀ b H' Q, b ∈ xs → Same H H' → Q (F b) H' → te ((wipe σ [i]).set i (some b)) H' Q) (hd : Qd (upd H D (.lst (xs.map F)))) :
    ∃ W : Nat → Nat → Hp → Prop, (∃ m, W 0 m (upd H D (.lst []))) ∧ ∀ i' m H, W i' m H →
      ((Itt K a).stop i' H ∧ Qd H) ∨ ((Itt K a).go i' H ∧ ∃ Nx : Hp → Prop, (∀ H', Nx H' → ∃ m', m' < m ∧ W (i' + 1) m' H') ∧ ∀ x H', (Itt K a).yld i' H x H' → gName i x (wipe σ [i]) H' fun σ2 H2 => wipe σ2 [i] = wipe σ [i] ∧ tYes σ2 H2 fun b H3 =>
        if b = true then te σ2 H3 fun y H4 => ∃ acc, H4 D = some (.lst acc) ∧ acc.length < sizeLine ∧ Nx (upd H4 D (.lst (acc ++ [y]))) else Nx H3) := by
  refine lc_tup (K := K) (a := a) (xs := xs) (fun k H' => H' = upd H D (.lst ((xs.take k).map F))) rfl (fun k H' _ e => ?_) ?_ ?_
  · subst e
    exact SqT.of (Same.new nD _ _ ha)
  · rintro k y H' hy rfl
    refine ⟨hw _, ?_⟩
    unfold tYes
    dsimp only []
    rw [if_pos rfl]
    refine he y _ _ (List.mem_of_getElem? hy) (Same.new nD) ⟨_, upd_same, ?_, ?_⟩
    · rw [List.length_map, List.length_take]
      exact Nat.lt_of_le_of_lt (show min k xs.length ≤ 1000 by omega) (by decide)
    · show upd (upd H D _) D _ = _
      rw [upd_upd, take_succ_get hy, List.map_append]
      rfl
  · rintro H' rfl
    rw [List.take_length]
    exact hd
/-- over a range, each number by F; the number may be dropped -/
theorem lc_rngF {te : TE} {tt : TT} {σ : L2.St} {H : Hp} {D : Addr} {lo : Int} {n i : Nat} {Qd : Hp → Prop} (B : Nat → Bool) (F : Nat → V) (nD : H D = none) (hL : n ≤ 1000)
    (hw : ∀ v, wipe ((wipe σ [i]).set i (some v)) [i] = wipe σ [i]) (ht : ∀ k H' Q, k < n → Same H H' → Q (B k) H' → tt ((wipe σ [i]).set i (some (.int (lo + k)))) H' Q) (he : ∀ k H' Q, k < n → B k = true → Same H H' → Q (F k) H' → te ((wipe σ [i]).set i (some (.int (lo + k)))) H' Q)
    (hd : Qd (upd H D (.lst (((List.range n).filter B).map F)))) :
    ∃ W : Nat → Nat → Hp → Prop, (∃ m, W 0 m (upd H D (.lst []))) ∧ ∀ i' m H, W i' m H →
      ((Itr lo n).stop i' H ∧ Qd H) ∨ ((Itr lo n).go i' H ∧ ∃ Nx : Hp → Prop, (∀ H', Nx H' → ∃ m', m' < m ∧ W (i' + 1) m' H') ∧ ∀ x H', (Itr lo n).yld i' H x H' → gName i x (wipe σ [i]) H' fun σ2 H2 => wipe σ2 [i] = wipe σ [i] ∧ tt σ2 H2 fun b H3 =>
        if b = true then te σ2 H3 fun y H4 => ∃ acc, H4 D = some (.lst acc) ∧ acc.length < sizeLine ∧ Nx (upd H4 D (.lst (acc ++ [y]))) else Nx H3) := by
  refine lc_range (fun k H' => H' = upd H D (.lst (((List.range k).filter B).map F))) rfl ?_ ?_
  · rintro k H' hk rfl
    refine ⟨hw _, ht k _ _ hk (Same.new nD) ?_⟩
    have e : (List.range (k + 1)).filter B = (List.range k).filter B ++ (if B k = true then [k] else []) := by
      rw [List.range_succ, List.filter_append]
      congr 1
      rw [List.filter_cons]
      split <;> rfl
    by_cases b : B k = true
    · rw [if_pos b]
      refine he k _ _ hk b (Same.new nD) ⟨_, upd_same, ?_, ?_⟩
      · rw [List.length_map]
        have l1 := List.length_filter_le B (List.range k)
        rw [List.length_range] at l1
        exact Nat.lt_of_le_of_lt (show _ ≤ 1000 by omega) (by decide)
      · show upd (upd H D _) D _ = _
        rw [upd_upd, e, if_pos b, List.map_append]
        rfl
    · rw [if_neg b]
      show _ = _
      rw [e, if_neg b, List.append_nil]
  · rintro H' rfl
    exact hd
end K21

set_option Elab.async false
set_option linter.all false
set_option maxRecDepth 100000
set_option maxHeartbeats 4000000
set_option exponentiation.threshold 2000
/-! The walk: gaps are right. -/
namespace K21
open PySem PySem.Spec PyProof.Rows L2
local macro_rules | `(tactic| walk_at "pos") => `(tactic| first | assumption | ((with_reducible show (0 : Int) < _); first | assumption | omega | decide) | decide)
local macro_rules | `(tactic| walk_at "b") => `(tactic| (repeat' (first | ((with_reducible show Bd _ _); first | assumption | exact Bd.lit64 (by decide) | (refine' Bd.add ?_ ?_) | (refine' Bd.sub ?_ ?_) | (refine' Bd.mul ?_ ?_) | (refine' Bd.neg ?_) | (refine' Bd.div ?_ ?_) | (refine' Bd.mod ?_ ?_)) | ((with_reducible show (_ : Int) < _); first | assumption | omega))))
local macro_rules | `(tactic| walk_at "mul") => `(tactic| exact Bd.mulW (by walk_at "b") (by walk_at "b") (by decide))
local macro_rules | `(tactic| walk_at "div") => `(tactic| exact Bd.divW (by walk_at "pos") (by walk_at "b") (by decide))
section
variable {P : Program} {w : World} {K : PySem.W.Frag} {mg : Str → Option Value} {base : Heap}
def sp_L_gaps_right : Sp := fun vs H Q _ => ∃ (d t : Addr) (n : Nat) (h S e q x : Int), vs = [.ref d, .ref t, .int x] ∧ Tape H d n ∧ n + 200 ≤ 1000000 ∧ H t = some (.tup [.int h, .int S, .int e, .int q]) ∧ Drawn 30 h S e q ∧ 0 ≤ x ∧ x < h ∧ ∀ H', SameX d H H' → Tape H' d (n + 200) → Q (.bl true) H'
theorem sc_L_gaps_right : FnScope ["_law_tape", "_law_told", "_law_house_here", "_law_made", "_law_gaps", "_law_visits", "_law_lengths", "_law_turn", "_law_here", "_law_pair", "_law_gap", "_law_many", "_law_k"] ["_law_tape", "_law_told", "_law_house_here"] (C8.fnScope s_L_gaps_right) := C8.fnScope_by (by decide +kernel)
theorem cal_L_gaps_right (T : Txt K mg) : C8.Cal P w K mg base 8 "_law_gaps_right" sp_L_gaps_right [] := by
  refine cal_mk (T.D_L_gaps_right) (T.g_L_gaps_right) (fun _ _ _ _ _ _ us hl => match us, hl with | [_, _, _], _ => rfl) sc_L_gaps_right (fun vs H Q E h => ?_) (fun cdv A outer s H vs Q E hr h => ?_)
  · obtain ⟨d, t, n, h, S, e, q, x, rfl, _⟩ := h
    rfl
  · obtain ⟨d, t, n, h, S, e, q, x, rfl, tp, nn, ht, dr, x0, xh, k⟩ := h
    have bh : Bd 140 h := (bd_10 (f := 30) (by have := dr.h1; have := ten_pos 30; omega) dr.hh (by decide)).mono (by decide)
    have bq : Bd 140 q := (bd_10 (f := 30) (by have := dr.q1; have := ten_pos 30; omega) (by have := dr.qq; omega) (by decide)).mono (by decide)
    have ok := nrm_ok (h := h) (s := S) (e := e) (q := q) dr.h1 dr.q1
    have sm : (nrm h S e q).Sm := nrm_sm dr.h1 dr.q1 bh bq
    refine ⟨_, (pss_cons (ps_set (i := 3) sc_L_gaps_right.nd rfl (Or.inl rfl) (C8.pe_mk (mak_Course T) hr (by decide) rfl (pa_cons (pe_ix ix_tup (pv 1) pe_int (fun _ _ => rfl)) (pa_cons (pe_ix ix_tup (pv 1) pe_int (fun _ _ => rfl)) (pa_cons (pe_ix ix_tup (pv 1) pe_int (fun _ _ => rfl)) (pa_cons (pe_ix ix_tup (pv 1) pe_int (fun _ _ => rfl)) pa_nil))))))
      (pss_cons (ps_par (i := 4) (j := 5) (by rfl) sc_L_gaps_right.nd rfl rfl (by decide) rfl rfl (pa_cons (C8.pe_mt (met_C_gaps T) hr (by decide) (pv 3) (pa_cons (pv 2) pa_nil)) (pa_cons (C8.pe_mt (met_C_count T) hr (by decide) (pv 3) (pa_cons (pv 2) (pa_cons (C8.pe_mt0 (met_C_turn T) hr (by decide) (pv 3)) pa_nil))) pa_nil)) (by rfl))
      (pss_cons (ps_if (pt_cmpR op_eq (pv 5) pe_int (nomark _)) (pss_one (ps_ret (pe_cmpR op_isN (pv 4) pe_non (nomark _))))
      pss_nil)
      (pss_cons (ps_if (PW.pt (pw_or (pt_not (pt_val (pe_callB call_isi (by rfl) T.f_isinstance b_isinstance (pa_cons (pv 4) (pa_cons (pe_bltn (v := .ty "tuple") (u := .type "tuple") (by rfl) T.f_tuple b_tuple rfl) pa_nil))))) (pw_or (pt_not (pt_chain op_le op_le pe_int (pe_callB call_len_seq (by rfl) T.f_len b_len (pa_cons (pv 4) pa_nil)) pe_int)) (pw_or1 (pt_not (pt_val (pe_callB (cr_all rfl) (by rfl) T.f_all b_all (pa_cons (pe_lc (own := [("_law_pair", 9)]) (g := gName 9) (tt := tYes) rfl sc_L_gaps_right.nd (pi_tup (pv 4)) (blkOk_by (N := ["_law_tape", "_law_told", "_law_house_here", "_law_made", "_law_gaps", "_law_visits", "_law_lengths", "_law_turn", "_law_here", "_law_pair", "_law_gap", "_law_many", "_law_k"]) (sc := C8.fnScope s_L_gaps_right) (by decide +kernel)) (fun _ _ _ _ _ => (pg_name (i := 9) sc_L_gaps_right.nd rfl (Or.inl rfl))) (fun _ _ _ _ _ => pts_nil) (fun _ _ _ _ _ => (pe_cmpR op_eq (pe_callB (r := rLenQ K) call_lenQ (by rfl) T.f_len b_len (pa_cons (pv 9) pa_nil)) pe_int (nomark _)))) pa_nil)))))))) (pss_one (ps_ret pe_bl))
      pss_nil)
      (pss_cons (ps_if (pt_not (pt_val (pe_callB (cr_all rfl) (by rfl) T.f_all b_all (pa_cons (pe_lc (own := [("_law_gap", 10), ("_law_many", 11)]) (g := gTup _ 2 (gCons (gName 10) (gCons (gName 11) gNil))) (tt := tYes) rfl sc_L_gaps_right.nd (pi_tup (pv 4)) (blkOk_by (N := ["_law_tape", "_law_told", "_law_house_here", "_law_made", "_law_gaps", "_law_visits", "_law_lengths", "_law_turn", "_law_here", "_law_pair", "_law_gap", "_law_many", "_law_k"]) (sc := C8.fnScope s_L_gaps_right) (by decide +kernel)) (fun _ _ _ _ _ => (pg_tup rfl (pgs_cons (pg_name (i := 10) sc_L_gaps_right.nd rfl (Or.inl rfl)) (pgs_cons (pg_name (i := 11) sc_L_gaps_right.nd rfl (Or.inl rfl)) pgs_nil)))) (fun _ _ _ _ _ => pts_nil) (fun _ _ _ _ _ => (pe_and (C8.pe_c (cal_L_whole_is T) hr (by decide) rfl (pa_cons (pv 10) (pa_cons (pv 10) pa_nil))) (pe_and (C8.pe_c (cal_L_whole_is T) hr (by decide) rfl (pa_cons (pv 11) (pa_cons (pv 11) pa_nil))) (pe_and (pe_cmpR op_gt (pv 10) pe_int (nomark _)) (pe_one (pe_cmpR op_gt (pv 11) pe_int (nomark _)))))))) pa_nil)))) (pss_one (ps_ret pe_bl))
      pss_nil)
      (pss_cons (ps_set (i := 6) sc_L_gaps_right.nd rfl (Or.inr rfl) (pe_lc (own := [("_law_gap", 10), ("_law_many", 11)]) (g := gTup _ 2 (gCons (gName 10) (gCons (gName 11) gNil))) (tt := tYes) rfl sc_L_gaps_right.nd (pi_tup (pv 4)) (blkOk_by (N := ["_law_tape", "_law_told", "_law_house_here", "_law_made", "_law_gaps", "_law_visits", "_law_lengths", "_law_turn", "_law_here", "_law_pair", "_law_gap", "_law_many", "_law_k"]) (sc := C8.fnScope s_L_gaps_right) (by decide +kernel)) (fun _ _ _ _ _ => (pg_tup rfl (pgs_cons (pg_name (i := 10) sc_L_gaps_right.nd rfl (Or.inl rfl)) (pgs_cons (pg_name (i := 11) sc_L_gaps_right.nd rfl (Or.inl rfl)) pgs_nil)))) (fun _ _ _ _ _ => pts_nil) (fun _ _ _ _ _ => (pv 10))))
      (pss_cons (ps_if (PW.pt (pw_or (pt_cmpR (op_neD hr.units) (pv 6) (pe_callB cr_sortedI (by rfl) T.f_sorted b_sorted (pa_cons (pv 6) pa_nil)) (nomark _)) (pw_or1 (pt_val (pe_callB (cr_any rfl) (by rfl) T.f_any b_any (pa_cons (pe_lc (own := [("_law_k", 12)]) (g := gName 12) (tt := tYes) rfl sc_L_gaps_right.nd (pi_range2 rfl T.f_range (pa_cons pe_int (pa_cons (pe_callB call_len_seq (by rfl) T.f_len b_len (pa_cons (pv 6) pa_nil)) pa_nil))) (blkOk_by (N := ["_law_tape", "_law_told", "_law_house_here", "_law_made", "_law_gaps", "_law_visits", "_law_lengths", "_law_turn", "_law_here", "_law_pair", "_law_gap", "_law_many", "_law_k"]) (sc := C8.fnScope s_L_gaps_right) (by decide +kernel)) (fun _ _ _ _ _ => (pg_name (i := 12) sc_L_gaps_right.nd rfl (Or.inl rfl))) (fun _ _ _ _ _ => pts_nil) (fun _ _ _ _ _ => (pe_cmpR op_eq (pe_ix (r := rIxL K) ix_list (pv 6) (pv 12) (fun _ _ => rfl)) (pe_ix (r := rIxL K) ix_list (pv 6) (pe_op op_sub (pv 12) pe_int) (fun _ _ => rfl)) (nomark _)))) pa_nil)))))) (pss_one (ps_ret pe_bl))
      pss_nil)
      (pss_cons (ps_if (PW.pt (pw_or (pt_cmpR op_ne (pe_callB (cr_sum rfl) (by rfl) T.f_sum b_sum (pa_cons (pe_lc (own := [("_law_gap", 10), ("_law_many", 11)]) (g := gTup _ 2 (gCons (gName 10) (gCons (gName 11) gNil))) (tt := tYes) rfl sc_L_gaps_right.nd (pi_tup (pv 4)) (blkOk_by (N := ["_law_tape", "_law_told", "_law_house_here", "_law_made", "_law_gaps", "_law_visits", "_law_lengths", "_law_turn", "_law_here", "_law_pair", "_law_gap", "_law_many", "_law_k"]) (sc := C8.fnScope s_L_gaps_right) (by decide +kernel)) (fun _ _ _ _ _ => (pg_tup rfl (pgs_cons (pg_name (i := 10) sc_L_gaps_right.nd rfl (Or.inl rfl)) (pgs_cons (pg_name (i := 11) sc_L_gaps_right.nd rfl (Or.inl rfl)) pgs_nil)))) (fun _ _ _ _ _ => pts_nil) (fun _ _ _ _ _ => (pv 11))) pa_nil)) (pv 5) (nomark _)) (pw_or1 (pt_cmpR op_ne (pe_callB (cr_sum rfl) (by rfl) T.f_sum b_sum (pa_cons (pe_lc (own := [("_law_gap", 10), ("_law_many", 11)]) (g := gTup _ 2 (gCons (gName 10) (gCons (gName 11) gNil))) (tt := tYes) rfl sc_L_gaps_right.nd (pi_tup (pv 4)) (blkOk_by (N := ["_law_tape", "_law_told", "_law_house_here", "_law_made", "_law_gaps", "_law_visits", "_law_lengths", "_law_turn", "_law_here", "_law_pair", "_law_gap", "_law_many", "_law_k"]) (sc := C8.fnScope s_L_gaps_right) (by decide +kernel)) (fun _ _ _ _ _ => (pg_tup rfl (pgs_cons (pg_name (i := 10) sc_L_gaps_right.nd rfl (Or.inl rfl)) (pgs_cons (pg_name (i := 11) sc_L_gaps_right.nd rfl (Or.inl rfl)) pgs_nil)))) (fun _ _ _ _ _ => pts_nil) (fun _ _ _ _ _ => (pe_op op_mulW (pv 10) (pv 11)))) pa_nil)) (C8.pe_mt0 (met_C_turn T) hr (by decide) (pv 3)) (nomark _))))) (pss_one (ps_ret pe_bl))
      pss_nil)
      (C8.pss_cut (ps_if (PW.pt (pw_and (pt_cmpR op_eq (pe_callB call_len_seq (by rfl) T.f_len b_len (pa_cons (pv 4) pa_nil)) pe_int (nomark _)) (pw_and1 (pt_cmpR op_ne (pe_op op_add (pe_ix ix_list (pv 6) pe_int (fun _ _ => rfl)) (pe_ix ix_list (pv 6) pe_int (fun _ _ => rfl))) (pe_ix ix_list (pv 6) pe_int (fun _ _ => rfl)) (nomark _))))) (pss_one (ps_ret pe_bl))
      pss_nil)
      (pss_cons (ps_for PassesOwn.never rfl (pi_range1 rfl T.f_range (pa_cons pe_int pa_nil)) (pg_name (i := 7) sc_L_gaps_right.nd rfl (Or.inl rfl))
      (pss_cons (ps_set (i := 8) sc_L_gaps_right.nd rfl (Or.inl rfl) (C8.pe_mt (met_C_next_visit T) hr (by decide) (pv 3) (pa_cons (pv 2) (pa_cons (C8.pe_c (cal_L_size T) hr (by decide) rfl (pa_cons (pv 0) (pa_cons pe_int pa_nil))) pa_nil))))
      (pss_one (ps_if (pt_cmpR op_notIn_seq (pe_op op_sub (C8.pe_mt (met_C_next_visit T) hr (by decide) (pv 3) (pa_cons (pv 2) (pa_cons (pe_op op_add (pv 8) pe_int) pa_nil))) (pv 8)) (pv 6) rfl) (pss_one (ps_ret pe_bl))
      pss_nil))))
      (pss_one (ps_ret pe_bl)))))))))))), ?_⟩
    refine ⟨_, rfl, t, _, _, _, rfl, rfl, SqT.of ht, rfl, _, rfl, t, _, _, _, rfl, rfl, SqT.of ht, rfl, _, rfl, t, _, _, _, rfl, rfl, SqT.of ht, rfl, _, rfl, t, _, _, _, rfl, rfl, SqT.of ht, rfl, fun p dx np ndx ne => ?_⟩
    refine ⟨p, dx, h, S, e, q, rfl, dr.h1, dr.q1, dr.cop, bh, bq, upd_same, rfl, ?_⟩
    have hc : (nrm h S e q).h = h := rfl
    generalize hcc : nrm h S e q = c at ok sm hc ⊢
    have xh' : x < c.h := by rw [hc]; exact xh
    refine ⟨_, rfl, _, _, _, rfl, upd_same, rfl, _, rfl, p, c, x, rfl, ⟨_, upd_same⟩, sm, x0, xh', fun v H2 s2 gr => ?_⟩
    have S2 := (same_made np ndx).trans s2
    have hp2 := s2 _ _ upd_same
    have cnt : sumN c.M.toNat (fun k => ind ((c.e * (k : Int) + c.off x) % c.m < c.q)) = c.each x := ok.count x
    have M0 : 0 ≤ c.M := by have := ok.M1; omega
    refine ⟨_, rfl, _, _, _, rfl, hp2, rfl, _, rfl, _, rfl, _, _, _, rfl, hp2, rfl, p, c, rfl, ⟨_, hp2⟩, sm, p, c, x, c.M, rfl, ⟨_, hp2⟩, sm, x0, xh', M0, sm.bM.mono (by decide), fun H3 s3 => ⟨_, _, rfl, ?_⟩⟩
    have S3 := S2.trans s3
    have hp3 := s3 _ _ hp2
    have tp3 := tp.same S3
    refine ⟨_, rfl, rfl, _, rfl, ite2 (fun g0 => ?_) (fun g0 => ?_)⟩
    · rw [dec_int0, cnt] at g0
      have ez : c.each x = 0 := of_decide_eq_true g0
      rcases gr with ⟨_, rfl⟩ | ⟨g1, _⟩
      · exact ⟨_, rfl, rfl, k _ (SameX.of S3) (tp3.mono (by omega))⟩
      · omega
    rw [dec_int0, cnt] at g0
    have e1 : ¬ c.each x = 0 := fun z => g0 (decide_eq_true z)
    obtain ⟨B1, g, xs, L, rfl, hg2, pL2, T⟩ : 1 ≤ c.each x ∧ ∃ g xs L, v = .ref g ∧ H2 g = some (.tup xs) ∧ Prs H2 xs L ∧ Told (c.vis x) c.Mn (c.each x) L := by
      rcases gr with ⟨z, _⟩ | z
      · exact absurd z e1
      · exact z
    have hg3 := s3 _ _ hg2
    have pL3 := pL2.mono fun q ys e => s3 _ _ e
    clear hg2 pL2 hp2 S2 s2 s3 tp ht gr
    have SS3 := S3
    have l0 := T.len0
    have l3 := T.len3
    have xl : xs.length = L.length := pL3.len
    have hM : ((c.M.toNat : Nat) : Int) = c.M := Int.toNat_of_nonneg M0
    have bM := sm.bM
    refine ⟨_, rfl, _, _, _, _, true, rfl, .ty "tuple", .base (.tup hg3), kit_ty (by decide +kernel), _, rfl, iteF ?_⟩
    refine ⟨_, rfl, g, _, rfl, Or.inr (SqT.of hg3), _, _, rfl, rfl, _, rfl, ite2 (fun _ => ?_) (fun z => absurd (decide_eq_true (show (1 : Int) ≤ (xs.length : Int) by omega)) z)⟩
    refine ⟨_, _, rfl, rfl, _, rfl, ite2 (fun z => ?_) (fun _ => ?_)⟩
    · exfalso
      have z' : (!decide ((xs.length : Int) ≤ 3)) = true := z
      rw [decide_eq_true (show (xs.length : Int) ≤ 3 by omega)] at z'
      cases z'
    refine ⟨_, rfl, g, rfl, ⟨_, SqT.of hg3⟩, fun D1 nD1 => ?_⟩
    refine lc_tupF (K := K) (fun _ => V.bl true) hg3 nD1 (by omega) (fun _ => rfl) (fun y H' Q' hy sy q => ?_) ?_
    · obtain ⟨t, i, j, rfl, ht⟩ := pL3.1 y hy
      exact ⟨_, rfl, t, _, rfl, Or.inr (SqT.of (sy _ _ ht)), rfl, q⟩
    refine ⟨D1, xs.map (fun _ => true), rfl, SqL.of (upd_same.trans (by rw [List.map_map]; rfl)), _, rfl, ?_⟩
    rw [all_true]
    refine iteF ?_
    have hg4 := Same.new (o := .lst (xs.map fun _ => V.bl true)) nD1 _ _ hg3
    have hp4 := Same.new (o := .lst (xs.map fun _ => V.bl true)) nD1 _ _ hp3
    have pL4 := pL3.mono fun q ys e => Same.new (o := .lst (xs.map fun _ => V.bl true)) nD1 _ _ e
    have tp4 := tp3.same (Same.new (o := .lst (xs.map fun _ => V.bl true)) nD1)
    have SS4 := SS3.add (o := .lst (xs.map fun _ => V.bl true)) nD1
    clear hg3 hp3 pL3 tp3
    generalize upd H3 D1 (.lst (xs.map fun _ => V.bl true)) = H4 at hg4 hp4 pL4 tp4 SS4 ⊢
    clear nD1
    refine ⟨_, rfl, g, rfl, ⟨_, SqT.of hg4⟩, fun D1 nD1 => ?_⟩
    refine lc_prs (K := K) (fun _ => V.bl true) hg4 pL4 nD1 (by omega) (fun _ _ => rfl) (fun b H' Q' hb q => ?_) ?_
    · have pb := T.pos b hb
      refine ⟨_, rfl, _, rfl, b.1, b.1, rfl, _, rfl, ite2 (fun _ => ?_) (fun z => absurd (decide_eq_true rfl) z)⟩
      refine ⟨_, rfl, _, rfl, b.2, b.2, rfl, _, rfl, ite2 (fun _ => ?_) (fun z => absurd (decide_eq_true rfl) z)⟩
      refine ⟨_, rfl, _, _, rfl, rfl, _, rfl, ite2 (fun _ => ?_) (fun z => absurd (decide_eq_true pb.1) z)⟩
      refine ⟨_, rfl, _, _, rfl, rfl, ?_⟩
      show Q' (.bl (decide (0 < b.2))) H'
      rw [decide_eq_true pb.2]
      exact q
    refine ⟨D1, L.map (fun _ => true), rfl, SqL.of (upd_same.trans (by rw [List.map_map]; rfl)), _, rfl, ?_⟩
    rw [all_true]
    refine iteF ?_
    have hg5 := Same.new (o := .lst (L.map fun _ => V.bl true)) nD1 _ _ hg4
    have hp5 := Same.new (o := .lst (L.map fun _ => V.bl true)) nD1 _ _ hp4
    have pL5 := pL4.mono fun q ys e => Same.new (o := .lst (L.map fun _ => V.bl true)) nD1 _ _ e
    have tp5 := tp4.same (Same.new (o := .lst (L.map fun _ => V.bl true)) nD1)
    have SS5 := SS4.add (o := .lst (L.map fun _ => V.bl true)) nD1
    clear hg4 hp4 pL4 tp4
    generalize upd H4 D1 (.lst (L.map fun _ => V.bl true)) = H5 at hg5 hp5 pL5 tp5 SS5 ⊢
    clear nD1
    -- the lengths
    refine ⟨_, rfl, g, rfl, ⟨_, SqT.of hg5⟩, fun D nD => ?_⟩
    refine lc_prs (K := K) (fun a => V.int a.1) hg5 pL5 nD (by omega) (fun _ _ => rfl) (fun b H' Q' hb q => ⟨_, rfl, q⟩) ?_
    have eD : (L.map fun a => V.int a.1) = (L.map (·.1)).map V.int := by rw [List.map_map]; rfl
    have hD6 : upd H5 D (.lst (L.map fun a => V.int a.1)) D = some (.lst ((L.map (·.1)).map V.int)) := by rw [← eD]; exact upd_same
    have hg6 := Same.new (o := .lst (L.map fun a => V.int a.1)) nD _ _ hg5
    have hp6 := Same.new (o := .lst (L.map fun a => V.int a.1)) nD _ _ hp5
    have pL6 := pL5.mono fun q ys e => Same.new (o := .lst (L.map fun a => V.int a.1)) nD _ _ e
    have tp6 := tp5.same (Same.new (o := .lst (L.map fun a => V.int a.1)) nD)
    have SS6 := SS5.add (o := .lst (L.map fun a => V.int a.1)) nD
    clear hg5 hp5 pL5 tp5
    generalize upd H5 D (.lst (L.map fun a => V.int a.1)) = H6 at hD6 hg6 hp6 pL6 tp6 SS6 ⊢
    clear nD eD
    have asc := T.lens
    have nl : (L.map (·.1)).length = L.length := List.length_map _
    have memN : ∀ b ∈ L, b.1 ∈ L.map (·.1) := fun b hb => List.mem_map_of_mem hb
    have three : ∀ a b c, L.map (·.1) = [a, b, c] → a + b = c := fun a b c z => by
      match L, z with
      | [a', b', c'], z =>
        simp only [List.map_cons, List.map_nil, List.cons.injEq, and_true] at z
        have := T.three a' b' c' rfl
        omega
    generalize hN : L.map (·.1) = N at hD6 asc nl memN three ⊢
    -- sorted
    refine ⟨_, rfl, _, rfl, D, N, rfl, SqL.of hD6, fun ns' p7 pm so np7 => ?_⟩
    obtain rfl := sorted_eq pm so asc
    have hD7 := Same.new (o := .lst (ns'.map V.int)) np7 _ _ hD6
    refine ⟨_, _, .lst (SqL.of hD7) (dp_ints _), .lst (SqL.of upd_same) (dp_ints _), PySem.W.ke_shaped_ints _, PySem.W.ke_shaped_ints _, _, rfl, ite2 (fun z => ?_) (fun _ => ?_)⟩
    · exfalso
      have z' : (!PyData.eqvAll (ns'.map PyData.int) (ns'.map PyData.int)) = true := by
        have h := z
        rw [PyData.eqv] at h
        exact h
      rw [eqv_ints] at z'
      cases z'
    have hg7 := Same.new (o := .lst (ns'.map V.int)) np7 _ _ hg6
    have hp7 := Same.new (o := .lst (ns'.map V.int)) np7 _ _ hp6
    have pL7 := pL6.mono fun q ys e => Same.new (o := .lst (ns'.map V.int)) np7 _ _ e
    have tp7 := tp6.same (Same.new (o := .lst (ns'.map V.int)) np7)
    have SS7 := SS6.add (o := .lst (ns'.map V.int)) np7
    clear hg6 hp6 pL6 tp6 hD6
    generalize upd H6 p7 (.lst (ns'.map V.int)) = H7 at hD7 hg7 hp7 pL7 tp7 SS7 ⊢
    clear np7 pm so
    -- no two alike
    refine ⟨_, rfl, D, _, rfl, Or.inl (SqL.of hD7), _, _, rfl, ⟨by decide, by decide, by omega, by rw [List.length_map]; omega⟩, fun D2 nD2 => ?_⟩
    rw [List.length_map]
    refine lc_rngF (fun _ => true) (fun _ => V.bl false) nD2 (by omega) (fun _ => rfl) (fun k H' Q' hk sk q => q) (fun k H' Q' hk _ sk q => ?_) ?_
    · obtain ⟨a, ha⟩ : ∃ a, ns'[k]? = some a := ⟨_, List.getElem?_eq_getElem (by omega)⟩
      obtain ⟨b, hb⟩ : ∃ b, ns'[k + 1]? = some b := ⟨_, List.getElem?_eq_getElem (by omega)⟩
      have ab : a < b := by
        obtain ⟨h1, e1⟩ := List.getElem?_eq_some_iff.mp ha
        obtain ⟨h2, e2⟩ := List.getElem?_eq_some_iff.mp hb
        rw [← e1, ← e2]
        exact List.pairwise_iff_getElem.mp asc _ _ h1 h2 (by omega)
      have at1 : atI (ns'.map V.int) ((1 : Int) + (k : Int)) = some (.int b) := by
        rw [show (1 : Int) + (k : Int) = ((k + 1 : Nat) : Int) by omega]
        exact atI_nat (by rw [List.getElem?_map, hb]; rfl)
      have at0 : atI (ns'.map V.int) ((1 : Int) + (k : Int) - 1) = some (.int a) := by
        rw [show (1 : Int) + (k : Int) - 1 = ((k : Nat) : Int) by omega]
        exact atI_nat (by rw [List.getElem?_map, ha]; rfl)
      refine ⟨_, rfl, _, rfl, D, _, _, _, rfl, rfl, SqL.of (sk _ _ hD7), at1, _, rfl, _, rfl, _, _, rfl, rfl, D, _, _, _, rfl, rfl, SqL.of (sk _ _ hD7), at0, rfl, ?_⟩
      show Q' (.bl (decide (V.int b = V.int a))) H'
      rw [dec_int0, decide_eq_false (by omega)]
      exact q
    refine ⟨D2, ((List.range (((ns'.length : Int)) - 1).toNat).filter fun _ => true).map (fun _ => false), rfl, SqL.of (upd_same.trans (by rw [List.map_map]; rfl)), _, rfl, ?_⟩
    rw [any_false]
    refine iteF ?_
    generalize hZ : HO.lst (((List.range (((ns'.length : Int)) - 1).toNat).filter fun _ => true).map fun _ => V.bl false) = Z at *
    have hD8 := Same.new (o := Z) nD2 _ _ hD7
    have hg8 := Same.new (o := Z) nD2 _ _ hg7
    have hp8 := Same.new (o := Z) nD2 _ _ hp7
    have pL8 := pL7.mono fun q ys e => Same.new (o := Z) nD2 _ _ e
    have tp8 := tp7.same (Same.new (o := Z) nD2)
    have SS8 := SS7.add (o := Z) nD2
    clear hg7 hp7 pL7 tp7 hD7
    generalize upd H7 D2 Z = H8 at hD8 hg8 hp8 pL8 tp8 SS8 ⊢
    clear nD2 hZ
    -- the sums
    refine ⟨_, rfl, g, rfl, ⟨_, SqT.of hg8⟩, fun D3 nD3 => ?_⟩
    refine lc_prs (K := K) (fun a => V.int a.2) hg8 pL8 nD3 (by omega) (fun _ _ => rfl) (fun b H' Q' hb q => ⟨_, rfl, q⟩) ?_
    refine ⟨D3, L.map (·.2), rfl, SqL.of (upd_same.trans (by rw [List.map_map]; rfl)), _, rfl, rfl, _, rfl, ite2 (fun z => ?_) (fun _ => ?_)⟩
    · exfalso
      have z' : (!decide (V.int (L.map (·.2)).sum = V.int (sumN c.M.toNat (fun k => ind ((c.e * (k : Int) + c.off x) % c.m < c.q))))) = true := z
      rw [cnt, T.many] at z'
      simp at z'
    generalize hZ : HO.lst (L.map fun a => V.int a.2) = Z at *
    have hD9 := Same.new (o := Z) nD3 _ _ hD8
    have hg9 := Same.new (o := Z) nD3 _ _ hg8
    have hp9 := Same.new (o := Z) nD3 _ _ hp8
    have pL9 := pL8.mono fun q ys e => Same.new (o := Z) nD3 _ _ e
    have tp9 := tp8.same (Same.new (o := Z) nD3)
    have SS9 := SS8.add (o := Z) nD3
    clear hg8 hp8 pL8 tp8 hD8
    generalize upd H8 D3 Z = H9 at hD9 hg9 hp9 pL9 tp9 SS9 ⊢
    clear nD3 hZ
    refine ⟨_, rfl, g, rfl, ⟨_, SqT.of hg9⟩, fun D4 nD4 => ?_⟩
    refine lc_prs (K := K) (fun a => V.int (a.1 * a.2)) hg9 pL9 nD4 (by omega) (fun _ _ => rfl) (fun b H' Q' hb q => ?_) ?_
    · have pb := T.pos b hb
      have lb := T.le hb
      have hM' : ((c.Mn : Nat) : Int) = c.M := hM
      refine ⟨_, rfl, _, rfl, _, _, rfl, rfl, ?_, q⟩
      exact Bd.mulW (bM.le (by omega) (by omega)) (bM.le (x := b.2) (by omega) (by omega))
    refine ⟨D4, L.map (fun a => a.1 * a.2), rfl, SqL.of (upd_same.trans (by rw [List.map_map]; rfl)), ?_⟩
    have hp10 := Same.new (o := .lst (L.map fun a => V.int (a.1 * a.2))) nD4 _ _ hp9
    refine ⟨_, rfl, _, _, _, rfl, hp10, rfl, p, c, rfl, ⟨_, hp10⟩, sm, rfl, _, rfl, ite2 (fun z => ?_) (fun _ => ?_)⟩
    · exfalso
      have z' : (!decide (V.int (L.map (fun a => a.1 * a.2)).sum = V.int c.M)) = true := z
      have hM' : ((c.Mn : Nat) : Int) = c.M := hM
      rw [T.turn, hM'] at z'
      simp at z'
    have hDA := Same.new (o := .lst (L.map fun a => V.int (a.1 * a.2))) nD4 _ _ hD9
    have hgA := Same.new (o := .lst (L.map fun a => V.int (a.1 * a.2))) nD4 _ _ hg9
    have tpA := tp9.same (Same.new (o := .lst (L.map fun a => V.int (a.1 * a.2))) nD4)
    have SSA := SS9.add (o := .lst (L.map fun a => V.int (a.1 * a.2))) nD4
    clear hg9 hp9 pL9 tp9 hD9
    generalize upd H9 D4 (.lst (L.map fun a => V.int (a.1 * a.2))) = HA at hDA hgA hp10 tpA SSA ⊢
    clear nD4
    -- three gaps
    refine ⟨fun σ H' => ∃ v5 : Option V, σ = [some (.ref d), some (.ref t), some (.int x), some (.ref p), some (.ref g), v5, some (.ref D), none, none, none, none, none, none] ∧ H' = HA, ?_, ?_⟩
    · refine ⟨_, rfl, g, _, rfl, Or.inr (SqT.of hgA), rfl, _, rfl, ite2 (fun z => ?_) (fun _ => iteF ⟨_, rfl, rfl⟩)⟩
      have z' : decide (V.int (xs.length : Int) = V.int 3) = true := z
      rw [dec_int0] at z'
      have z3 : ns'.length = 3 := by
        have := of_decide_eq_true z'
        omega
      obtain ⟨a1, a2, a3, ea⟩ : ∃ a b c, ns' = [a, b, c] := by
        match ns', z3 with
        | [a, b, c], _ => exact ⟨a, b, c, rfl⟩
      have e3 := three _ _ _ ea
      have hDB : HA D = some (.lst [.int a1, .int a2, .int a3]) := by rw [hDA, ea]; rfl
      refine ⟨_, rfl, D, _, _, _, rfl, rfl, SqL.of hDB, rfl, _, rfl, D, _, _, _, rfl, rfl, SqL.of hDB, rfl, _, _, rfl, rfl, _, rfl, D, _, _, _, rfl, rfl, SqL.of hDB, rfl, rfl, _, rfl, ite2 (fun y => ?_) (fun _ => ⟨_, rfl, rfl⟩)⟩
      exfalso
      have y' : (!decide (V.int (a1 + a2) = V.int a3)) = true := y
      rw [e3] at y'
      simp at y'
    · rintro σ H' ⟨v5, rfl, rfl⟩
      have pd : p ≠ d := by
        obtain ⟨c', a, r, ys, hd, _⟩ := tpA.ex
        exact ne_of hp10 hd (fun z => by cases z)
      have Dd : D ≠ d := by
        obtain ⟨c', a, r, ys, hd, _⟩ := tpA.ex
        exact ne_of hDA hd (fun z => by cases z)
      refine ⟨3, rfl, by decide, by decide, ?_⟩
      refine for_range (fun i σ H' => ∃ v5 v7 v8 : Option V, σ = [some (.ref d), some (.ref t), some (.int x), some (.ref p), some (.ref g), v5, some (.ref D), v7, v8, none, none, none, none] ∧ Tape H' d (n + 8 * i) ∧ H' p = some (.ins (He.ga K "Course") dx (crsF c)) ∧ H' D = some (.lst (ns'.map V.int)) ∧ SameX d H H')
        ⟨v5, none, none, rfl, tpA, hp10, hDA, SameX.of SSA⟩ ?_ ?_
      · rintro i σ H0 hi ⟨v5, v7, v8, rfl, tp, hp, hD, SX⟩
        have i3 : i < 3 := hi
        refine ⟨_, rfl, _, _, _, rfl, hp, rfl, _, rfl, _, rfl, d, 40, n + 8 * i, rfl, by decide, by decide, tp, by omega, fun y H1 y0 y1 sx1 tp1 => ?_⟩
        have hp1 := sx1 _ _ pd hp
        have hD1 := sx1 _ _ Dd hD
        have by_ : Bd 200 y := (bd_ten (f := 40) (by decide)).le y0 (Int.le_of_lt y1)
        refine ⟨p, c, x, y, rfl, ⟨_, hp1⟩, sm, x0, xh', y0, by_.mono (by decide), B1, fun u H2 s2 fr => ?_⟩
        have hp2 := s2 _ _ hp1
        have hD2 := s2 _ _ hD1
        obtain ⟨yn, rfl⟩ := Int.eq_ofNat_of_zero_le y0
        have nx := Crs.from_nx yn fr
        obtain ⟨un, rfl⟩ := Int.eq_ofNat_of_zero_le fr.1
        have ul : (un : Int) ≤ c.M := by
          obtain ⟨g', G, _⟩ := T.gap
          have := nx.lt G
          have hM' : ((c.Mn : Nat) : Int) = c.M := hM
          simp only [Int.toNat_natCast] at this
          omega
        have bu : Bd 280 (un : Int) := bM.le (by omega) ul
        have b3 : Bd 300 ((yn : Int) + (un : Int) + 1) := (Bd.add (Bd.add by_ bu) (Bd.lit64 (x := 1) (by decide))).mono (by decide)
        refine ⟨_, rfl, _, _, _, rfl, hp2, rfl, _, rfl, _, rfl, _, _, rfl, rfl, p, c, x, _, rfl, ⟨_, hp2⟩, sm, x0, xh', by omega, b3, B1, fun u2 H3 s3 fr2 => ?_⟩
        have hp3 := s3 _ _ hp2
        have hD3 := s3 _ _ hD2
        have e1 : (yn : Int) + (un : Int) + 1 = ((yn + un + 1 : Nat) : Int) := by omega
        rw [e1] at fr2
        have nx2 := Crs.from_nx (yn + un + 1) fr2
        obtain ⟨u2n, rfl⟩ := Int.eq_ofNat_of_zero_le fr2.1
        simp only [Int.toNat_natCast] at nx nx2
        have mem := told_next T nx nx2
        rw [hN] at mem
        refine ⟨_, rfl, _, _, rfl, rfl, _, rfl, D, _, rfl, Or.inl (SqL.of hD3), rfl, flat_ints _, _, rfl, ite2 (fun z => ?_) (fun _ => ?_)⟩
        · exfalso
          have z' : (!inV (.int ((yn : Int) + (un : Int) + 1 + (u2n : Int) - ((yn : Int) + (un : Int)))) (ns'.map V.int)) = true := z
          rw [show (yn : Int) + (un : Int) + 1 + (u2n : Int) - ((yn : Int) + (un : Int)) = ((1 + u2n : Nat) : Int) by omega, inV_int mem] at z'
          cases z'
        · exact ⟨v5, _, _, rfl, (tp1.same (s2.trans s3)).mono (by omega), hp3, hD3, (SX.trans sx1).trans (SameX.of (s2.trans s3))⟩
      · rintro σ H0 ⟨v5, v7, v8, rfl, tp, hp, hD, SX⟩
        exact k _ SX (tp.mono (by omega))
end
end K21

set_option linter.all false
/-! The plain law of the small courses: the visits of two turns tell the gaps. -/
namespace K21
open List
/-- the visits below n -/
def visL (f : Nat → Bool) (n : Nat) : List Nat := (List.range n).filter f
theorem mem_visL {f : Nat → Bool} {n k : Nat} : k ∈ visL f n ↔ k < n ∧ f k = true := by
  unfold visL
  rw [List.mem_filter, List.mem_range]
theorem visL_lt (f : Nat → Bool) (n : Nat) : (visL f n).Pairwise (· < ·) := List.pairwise_lt_range.sublist List.filter_sublist
theorem visL_next {f : Nat → Bool} {g : Nat → Int} {M n : Nat} (G : Gp f g M) {i a b : Nat} (ha : (visL f n)[i]? = some a) (hb : (visL f n)[i + 1]? = some b) : (b : Int) - (a : Int) = g a := by
  have ma := mem_visL.mp (List.mem_of_getElem? ha)
  have mb := mem_visL.mp (List.mem_of_getElem? hb)
  obtain ⟨ha', ea⟩ := List.getElem?_eq_some_iff.mp ha
  obtain ⟨hb', eb⟩ := List.getElem?_eq_some_iff.mp hb
  have srt := List.pairwise_iff_getElem.mp (visL_lt f n)
  have ab : a < b := by
    rw [← ea, ← eb]
    exact srt _ _ ha' hb' (by omega)
  have p := G.pos a ma.2
  have hit := G.hit a ma.2
  -- b is not before a + g
  have h1 : a + (g a).toNat ≤ b := by
    rcases Nat.lt_or_ge b (a + (g a).toNat) with z | z
    · have := G.none a (b - a) ma.2 (by omega) (by omega)
      rw [show a + (b - a) = b by omega, mb.2] at this
      cases this
    · exact z
  -- a + g is a visit of the list, so it is not before b
  have h2 : b ≤ a + (g a).toNat := by
    have m := mem_visL.mpr ⟨show a + (g a).toNat < n by omega, hit⟩
    obtain ⟨j, hj, ej⟩ := List.getElem_of_mem m
    rcases Nat.lt_or_ge j (i + 1) with z | z
    · have : (visL f n)[j] ≤ a := by
        rw [← ea]
        rcases Nat.lt_or_ge j i with y | y
        · exact Nat.le_of_lt (srt _ _ hj ha' y)
        · have : j = i := by omega
          subst this
          exact Nat.le_refl _
      omega
    · have : b ≤ (visL f n)[j] := by
        rw [← eb]
        rcases Nat.lt_or_ge (i + 1) j with y | y
        · exact Nat.le_of_lt (srt _ _ hb' hj y)
        · have : j = i + 1 := by omega
          subst this
          exact Nat.le_refl _
      omega
  omega
/-- the gap behind the j-th visit of the list -/
def gapJ (V : List Nat) (j : Nat) : Int := (V.getD (j + 1) 0 : Int) - (V.getD j 0 : Int)
/-- the gaps that are counted in the first i turns -/
def gapsTo (V : List Nat) (M i : Nat) : List Int := ((List.range i).filter fun j => decide (V.getD j 0 < M)).map (gapJ V)
theorem gapsTo_succ (V : List Nat) (M i : Nat) : gapsTo V M (i + 1) = gapsTo V M i ++ (if V.getD i 0 < M then [gapJ V i] else []) := by
  unfold gapsTo
  rw [List.range_succ, List.filter_append, List.map_append]
  congr 1
  rw [List.filter_cons]
  by_cases h : V.getD i 0 < M
  · rw [if_pos h, if_pos (decide_eq_true h)]
    rfl
  · rw [if_neg h, if_neg (by simpa using h)]
    rfl
theorem range_getD (V : List Nat) : ∀ n, n ≤ V.length → (List.range n).map (fun j => V.getD j 0) = V.take n
  | 0, _ => rfl
  | n + 1, h => by
    rw [List.range_succ, List.map_append, range_getD V n (by omega), List.take_succ_eq_append_getElem (by omega)]
    show _ ++ [V.getD n 0] = _
    rw [List.getD_eq_getElem?_getD, List.getElem?_eq_getElem (by omega)]
    rfl
theorem filter_below (f : Nat → Bool) (M n : Nat) (h : M ≤ n) : (visL f n).filter (fun k => decide (k < M)) = visL f M := by
  obtain ⟨d, rfl⟩ : ∃ d, n = M + d := ⟨n - M, by omega⟩
  clear h
  induction d with
  | zero =>
    show (visL f M).filter _ = _
    rw [List.filter_eq_self]
    intro k hk
    exact decide_eq_true (mem_visL.mp hk).1
  | succ d ih =>
    have e : visL f (M + (d + 1)) = visL f (M + d) ++ (if f (M + d) = true then [M + d] else []) := by
      unfold visL
      rw [← Nat.add_assoc, List.range_succ, List.filter_append]
      congr 1
      rw [List.filter_cons]
      split <;> rfl
    rw [e, List.filter_append, ih]
    split
    · rw [List.filter_cons, if_neg (by simp)]
      simp
    · simp
theorem count_sum (f : Nat → Bool) (g : Nat → Int) (v : Int) : ∀ n, ((((visL f n).map g).count v : Nat) : Int) = sumN n (fun k => if f k = true then ind (g k = v) else 0)
  | 0 => rfl
  | n + 1 => by
    have e : visL f (n + 1) = visL f n ++ (if f n = true then [n] else []) := by
      unfold visL
      rw [List.range_succ, List.filter_append]
      congr 1
      rw [List.filter_cons]
      split <;> rfl
    rw [e, List.map_append, List.count_append, Int.natCast_add, count_sum f g v n]
    show _ = _ + (if f n = true then ind (g n = v) else 0)
    congr 1
    by_cases h : f n = true
    · rw [if_pos h, if_pos h]
      unfold ind
      by_cases z : g n = v
      · rw [if_pos z]
        simp [z]
      · rw [if_neg z]
        simp [z]
    · rw [if_neg h, if_neg h]
      rfl
/-- the gaps that are counted: each visit of a turn has its successor in the list -/
theorem gapsTo_all {f : Nat → Bool} {g : Nat → Int} {M n : Nat} (G : Gp f g M) (h2 : 2 * M ≤ n) : 2 ≤ (visL f n).length ∧ gapsTo (visL f n) M ((visL f n).length - 1) = (visL f M).map g := by
  obtain ⟨k0, hk, fk⟩ := G.some
  have m0 : k0 ∈ visL f n := mem_visL.mpr ⟨by omega, fk⟩
  have m1 : k0 + M ∈ visL f n := mem_visL.mpr ⟨by omega, by rw [G.per]; exact fk⟩
  have srt := List.pairwise_iff_getElem.mp (visL_lt f n)
  obtain ⟨j, hj, ej⟩ := List.getElem_of_mem m1
  obtain ⟨j0, hj0, ej0⟩ := List.getElem_of_mem m0
  have len2 : 2 ≤ (visL f n).length := by
    have : j0 ≠ j := fun z => by
      subst z
      omega
    omega
  refine ⟨len2, ?_⟩
  have e1 : gapsTo (visL f n) M ((visL f n).length - 1) = (((List.range ((visL f n).length - 1)).filter fun j => decide ((visL f n).getD j 0 < M)).map (fun j => (visL f n).getD j 0)).map g := by
    unfold gapsTo
    rw [List.map_map]
    refine List.map_congr_left fun i hi => ?_
    have hi' : i < (visL f n).length - 1 := List.mem_range.mp (List.mem_filter.mp hi).1
    unfold gapJ
    have a1 : (visL f n)[i]? = some ((visL f n)[i]'(by omega)) := List.getElem?_eq_getElem (by omega)
    have a2 : (visL f n)[i + 1]? = some ((visL f n)[i + 1]'(by omega)) := List.getElem?_eq_getElem (by omega)
    have := visL_next G a1 a2
    simp only [List.getD_eq_getElem?_getD, a1, a2, Option.getD_some, Function.comp]
    exact this
  have e2 : ((List.range ((visL f n).length - 1)).filter fun j => decide ((visL f n).getD j 0 < M)).map (fun j => (visL f n).getD j 0) = ((visL f n).take ((visL f n).length - 1)).filter (fun k => decide (k < M)) := by
    rw [← range_getD _ _ (by omega), List.filter_map]
    rfl
  have e3 : ((visL f n).take ((visL f n).length - 1)).filter (fun k => decide (k < M)) = (visL f n).filter (fun k => decide (k < M)) := by
    have e4 : visL f n = (visL f n).take ((visL f n).length - 1) ++ [(visL f n)[(visL f n).length - 1]'(by omega)] := by
      have := List.take_succ_eq_append_getElem (l := visL f n) (i := (visL f n).length - 1) (by omega)
      rw [← this, show (visL f n).length - 1 + 1 = (visL f n).length by omega, List.take_length]
    have last : M ≤ (visL f n)[(visL f n).length - 1]'(by omega) := by
      have : (visL f n)[j] ≤ (visL f n)[(visL f n).length - 1]'(by omega) := by
        rcases Nat.lt_or_ge j ((visL f n).length - 1) with y | y
        · exact Nat.le_of_lt (srt _ _ hj (by omega) y)
        · have : j = (visL f n).length - 1 := by omega
          subst this
          exact Nat.le_refl _
      omega
    conv => rhs; rw [e4]
    rw [List.filter_append, List.filter_cons, if_neg (by simpa using last)]
    simp
  rw [e1, e2, e3, filter_below f M n (by omega)]

/-- a dict's pairs, counted: the keys with how often they come in G -/
def Cnt (kvs : List (Int × Int)) (G : List Int) : Prop := (kvs.map (·.1)).Nodup ∧ ∀ v n, (v, n) ∈ kvs ↔ 0 < G.count v ∧ n = (G.count v : Nat)
theorem Cnt.nil : Cnt [] [] := ⟨List.nodup_nil, fun v n => by simp⟩
/-- the pairs in the order of the keys -/
theorem cnt_due {kvs : List (Int × Int)} {G : List Int} {L : List (Int × Int)} {ns : List Int} (h : Cnt kvs G) (p : ns.Perm (kvs.map (·.1))) (s : ns.Pairwise (· ≤ ·)) (asc : Asc L) (hL : ∀ v n, (v, n) ∈ L ↔ 0 < n ∧ n = (G.count v : Nat)) :
    ns.map (fun v => (v, ((G.count v : Nat) : Int))) = L := by
  have nd : ns.Nodup := p.nodup_iff.mpr h.1
  have s2 : ns.Pairwise (· < ·) := (s.and nd).imp fun {a b} z => by have := z.1; have := z.2; omega
  refine asc_ext (List.pairwise_map.mpr s2) asc fun a => ?_
  obtain ⟨v, n⟩ := a
  rw [hL, List.mem_map]
  constructor
  · rintro ⟨y, hy, e⟩
    injection e with e1 e2
    subst e1 e2
    obtain ⟨⟨y', m⟩, hm, rfl⟩ := List.mem_map.mp (p.mem_iff.mp hy)
    have h1 := ((h.2 _ _).mp hm).1
    refine ⟨?_, rfl⟩
    show (0 : Int) < ((G.count y' : Nat) : Int)
    omega
  · rintro ⟨h0, e⟩
    refine ⟨v, p.mem_iff.mpr (List.mem_map.mpr ⟨(v, n), (h.2 v n).mpr ⟨by omega, e⟩, rfl⟩), by rw [e]⟩
end K21

set_option linter.all false
set_option maxRecDepth 100000
/-! A dict of counts. -/
namespace K21
open PySem PySem.Spec PyProof.Rows L2
def enc (p : Int × Int) : Key × V := (.inl p.1, .int p.2)
def putI (kvs : List (Int × Int)) (v m : Int) : List (Int × Int) := if (kvs.any fun p => decide (p.1 = v)) = true then kvs.map (fun p => if p.1 = v then (p.1, m) else p) else kvs ++ [(v, m)]
theorem inl_eq {a b : Int} : ((.inl a : Key) = .inl b) ↔ a = b := ⟨fun h => Sum.inl.inj h, fun h => by rw [h]⟩
theorem enc_put (kvs : List (Int × Int)) (v m : Int) : putK (kvs.map enc) (.inl v) (.int m) = (putI kvs v m).map enc := by
  have e : ((kvs.map enc).any fun kv => decide (kv.1 = (.inl v : Key))) = kvs.any fun p => decide (p.1 = v) := by
    rw [List.any_map]
    congr 1
    funext p
    exact decide_eq_decide.mpr inl_eq
  unfold putK putI
  rw [e]
  split
  · rw [List.map_map, List.map_map]
    refine List.map_congr_left fun p _ => ?_
    show (if (.inl p.1 : Key) = .inl v then (_, _) else enc p) = enc (if p.1 = v then (p.1, m) else p)
    by_cases h : p.1 = v
    · rw [if_pos h, if_pos (inl_eq.mpr h)]
      rfl
    · rw [if_neg h, if_neg (fun z => h (inl_eq.mp z))]
  · rw [List.map_append]
    rfl
theorem putI_len (kvs : List (Int × Int)) (v m : Int) : (putI kvs v m).length ≤ kvs.length + 1 := by
  unfold putI
  split
  · rw [List.length_map]
    omega
  · rw [List.length_append]
    exact Nat.le_refl _
theorem Cnt.key {kvs : List (Int × Int)} {G : List Int} (h : Cnt kvs G) (v : Int) : v ∈ kvs.map (·.1) ↔ 0 < G.count v := by
  constructor
  · intro hv
    obtain ⟨⟨v', n⟩, hm, rfl⟩ := List.mem_map.mp hv
    exact ((h.2 _ _).mp hm).1
  · intro h0
    exact List.mem_map.mpr ⟨(v, _), (h.2 v _).mpr ⟨h0, rfl⟩, rfl⟩
theorem Cnt.get {kvs : List (Int × Int)} {G : List Int} (h : Cnt kvs G) (v : Int) : valV (kvs.map enc) (.inl v : Key) = if 0 < G.count v then some (.int (G.count v : Nat)) else none := by
  have key : ∀ l : List (Int × Int), (l.map (·.1)).Nodup → (∀ n, (v, n) ∈ l → valV (l.map enc) (.inl v : Key) = some (.int n)) ∧ (v ∉ l.map (·.1) → valV (l.map enc) (.inl v : Key) = none) := by
    intro l
    induction l with
    | nil => exact fun _ => ⟨fun n h => by simp at h, fun _ => rfl⟩
    | cons p r ih =>
      intro nd
      rw [List.map_cons, List.nodup_cons] at nd
      have ih := ih nd.2
      by_cases e : p.1 = v
      · refine ⟨fun n hn => ?_, fun hn => absurd (by rw [← e]; exact List.mem_cons_self) hn⟩
        rw [List.map_cons, valV_pos (show (enc p).1 = .inl v from inl_eq.mpr e)]
        rcases List.mem_cons.mp hn with z | z
        · rw [← z]
          rfl
        · exact absurd (by rw [e]; exact List.mem_map.mpr ⟨_, z, rfl⟩) nd.1
      · have e' : ¬ (enc p).1 = (.inl v : Key) := fun z => e (inl_eq.mp z)
        refine ⟨fun n hn => ?_, fun hn => ?_⟩
        · rw [List.map_cons, valV_neg e']
          rcases List.mem_cons.mp hn with z | z
          · exact absurd (by rw [← z]) e
          · exact ih.1 n z
        · rw [List.map_cons, valV_neg e']
          exact ih.2 fun z => hn (by rw [List.map_cons]; exact List.mem_cons_of_mem _ z)
  by_cases h0 : 0 < G.count v
  · rw [if_pos h0]
    exact (key kvs h.1).1 _ ((h.2 v _).mpr ⟨h0, rfl⟩)
  · rw [if_neg h0]
    exact (key kvs h.1).2 fun z => h0 ((h.key v).mp z)
theorem Cnt.put {kvs : List (Int × Int)} {G : List Int} (h : Cnt kvs G) (v : Int) : Cnt (putI kvs v ((G.count v : Nat) + 1)) (G ++ [v]) := by
  have cs : ∀ y, (G ++ [v]).count y = G.count y + if v = y then 1 else 0 := fun y => by
    rw [List.count_append]
    congr 1
    rw [List.count_cons, List.count_nil]
    by_cases z : v = y <;> simp [z]
  have an : (kvs.any fun p => decide (p.1 = v)) = true ↔ 0 < G.count v := by
    rw [← h.key v, List.any_eq_true, List.mem_map]
    exact ⟨fun ⟨p, hp, e⟩ => ⟨p, hp, of_decide_eq_true e⟩, fun ⟨p, hp, e⟩ => ⟨p, hp, decide_eq_true e⟩⟩
  unfold putI
  by_cases a : (kvs.any fun p => decide (p.1 = v)) = true
  · rw [if_pos a]
    have c0 := an.mp a
    refine ⟨?_, fun y n => ?_⟩
    · rw [List.map_map]
      have e : (kvs.map ((fun p : Int × Int => p.1) ∘ fun p => if p.1 = v then (p.1, ((G.count v : Nat) : Int) + 1) else p)) = kvs.map (·.1) := by
        refine List.map_congr_left fun p _ => ?_
        show (if p.1 = v then (p.1, _) else p).1 = p.1
        split <;> rfl
      rw [e]
      exact h.1
    · rw [List.mem_map, cs]
      constructor
      · rintro ⟨p, hp, e⟩
        by_cases z : p.1 = v
        · rw [if_pos z] at e
          injection e with e1 e2
          subst e1
          have z' : v = p.1 := z.symm
          rw [if_pos z', ← e2, ← z]
          exact ⟨by omega, by omega⟩
        · rw [if_neg z] at e
          subst e
          have := (h.2 y n).mp hp
          have z' : ¬ v = y := fun w => z w.symm
          rw [if_neg z']
          exact ⟨by omega, this.2⟩
      · rintro ⟨h0, e⟩
        by_cases z : v = y
        · subst z
          rw [if_pos rfl] at e
          refine ⟨(v, _), (h.2 v _).mpr ⟨c0, rfl⟩, ?_⟩
          rw [if_pos rfl, e]
          rfl
        · rw [if_neg z] at e h0
          refine ⟨(y, n), (h.2 y n).mpr ⟨by omega, e⟩, ?_⟩
          rw [if_neg (fun w => z w.symm)]
  · rw [if_neg a]
    have c0 : G.count v = 0 := by
      have : ¬ 0 < G.count v := fun z => a (an.mpr z)
      omega
    refine ⟨?_, fun y n => ?_⟩
    · rw [List.map_append, List.nodup_append]
      refine ⟨h.1, by simp, fun x hx y hy => ?_⟩
      have hy' : y = v := by simpa using hy
      subst hy'
      intro z
      subst z
      have := (h.key _).mp hx
      omega
    · rw [List.mem_append, List.mem_singleton, cs, h.2]
      constructor
      · rintro (⟨h0, e⟩ | e)
        · have z' : ¬ v = y := fun w => by subst w; omega
          rw [if_neg z']
          exact ⟨by omega, e⟩
        · injection e with e1 e2
          subst e1
          rw [if_pos rfl, c0]
          exact ⟨by omega, by rw [e2, c0]; rfl⟩
      · rintro ⟨h0, e⟩
        by_cases z : v = y
        · right
          subst z
          rw [if_pos rfl, c0] at e
          rw [e, c0]
          rfl
        · left
          rw [if_neg z] at e h0
          exact ⟨by omega, e⟩
theorem Cnt.getD {kvs : List (Int × Int)} {G : List Int} (h : Cnt kvs G) (v : Int) : (valV (kvs.map enc) (.inl v : Key)).getD (.int 0) = .int (G.count v : Nat) := by
  rw [h.get]
  split
  · rfl
  · rename_i z
    have : G.count v = 0 := by omega
    rw [this]
    rfl

/-! ### tuples of pairs as data -/
def pd (a : Int × Int) : PyData := .tuple [.int a.1, .int a.2]
theorem dp_prs {K : PySem.W.Frag} {H : Hp} : ∀ {xs : List V} {L : List (Int × Int)}, Prs H xs L → DpAll K H xs (L.map pd)
  | [], _, h => by
    rw [← h.2]
    exact .nil
  | x :: xs, L, h => by
    obtain ⟨t, i, j, rfl, ht⟩ := h.1 x List.mem_cons_self
    have h2 := h.2
    rw [List.map_cons, pairOf_at ht] at h2
    rw [← h2]
    exact .cons (.tup (SqT.of ht) (.cons (.int _) (.cons (.int _) .nil))) (dp_prs ⟨fun y hy => h.1 y (List.mem_cons_of_mem _ hy), rfl⟩)
theorem lay_prs : ∀ L : List (Int × Int), PyData.canLayAll0 (L.map pd) = true ∧ PyData.depthAll (L.map pd) ≤ 1
  | [] => ⟨rfl, Nat.zero_le _⟩
  | a :: r => by
    obtain ⟨h1, h2⟩ := lay_prs r
    refine ⟨?_, ?_⟩
    · rw [List.map_cons, PyData.canLayAll0, h1]
      rfl
    · rw [List.map_cons, PyData.depthAll]
      have : (pd a).depth = 1 := rfl
      omega
theorem shaped_prs (L : List (Int × Int)) : SeqAt.shaped (.tuple (L.map pd)) = true := by
  obtain ⟨h1, h2⟩ := lay_prs L
  unfold SeqAt.shaped
  rw [PyData.canLay0, h1, PyData.depth, Bool.true_and]
  exact decide_eq_true (by omega)
theorem eqv_prs : ∀ L : List (Int × Int), PyData.eqvAll (L.map pd) (L.map pd) = true
  | [] => rfl
  | a :: r => by
    rw [List.map_cons, PyData.eqvAll, eqv_prs r]
    simp [pd, PyData.eqv, PyData.eqvAll]
theorem eqv_nil (ns : List Int) : PyData.eqv (.list (ns.map PyData.int)) (.list []) = ns.isEmpty := by
  cases ns with
  | nil => simp [PyData.eqv, PyData.eqvAll]
  | cons a r => simp [PyData.eqv, PyData.eqvAll]
/-! ### the keys of a locked dict -/
theorem lc_keysI {te : TE} {σ : L2.St} {H : Hp} {D d : Addr} {o : Obj} {kvs : List (Int × Int)} {i : Nat} {Qd : Hp → Prop} (hd : H d = some (.frz o (.dK (kvs.map enc)))) (nD : H D = none) (hL : kvs.length ≤ 1000)
    (hw : ∀ v, wipe ((wipe σ [i]).set i (some v)) [i] = wipe σ [i]) (he : ∀ v H' Q, Q (.int v) H' → te ((wipe σ [i]).set i (some (.int v))) H' Q) (hq : Qd (upd H D (.lst ((kvs.map (·.1)).map V.int)))) :
    ∃ W : Nat → Nat → Hp → Prop, (∃ m, W 0 m (upd H D (.lst []))) ∧ ∀ i' m H, W i' m H →
      ((Itk d o (kvs.map enc)).stop i' H ∧ Qd H) ∨ ((Itk d o (kvs.map enc)).go i' H ∧ ∃ Nx : Hp → Prop, (∀ H', Nx H' → ∃ m', m' < m ∧ W (i' + 1) m' H') ∧ ∀ x H', (Itk d o (kvs.map enc)).yld i' H x H' → gName i x (wipe σ [i]) H' fun σ2 H2 => wipe σ2 [i] = wipe σ [i] ∧ tYes σ2 H2 fun b H3 =>
        if b = true then te σ2 H3 fun y H4 => ∃ acc, H4 D = some (.lst acc) ∧ acc.length < sizeLine ∧ Nx (upd H4 D (.lst (acc ++ [y]))) else Nx H3) := by
  have dD : d ≠ D := ne_of_none hd nD
  refine lc_it (walk_keys (d := d) (o := o) (kvs := kvs.map enc)) (fun k H' => H' = upd H D (.lst (((kvs.take k).map (·.1)).map V.int))) rfl (fun k H' _ e => ?_) ?_ ?_
  · subst e
    rw [upd_ne dD]
    exact hd
  · rintro k x H' H'' hk rfl ⟨rfl, key, v, e, rfl⟩
    rw [List.getElem?_map] at e
    obtain ⟨p, hp, e2⟩ := Option.map_eq_some_iff.mp e
    have ek : key = .inl p.1 := (congrArg Prod.fst e2).symm
    subst ek
    refine ⟨hw _, ?_⟩
    unfold tYes
    dsimp only []
    rw [if_pos rfl]
    refine he p.1 _ _ ⟨_, upd_same, ?_, ?_⟩
    · rw [List.length_map, List.length_map, List.length_take]
      exact Nat.lt_of_le_of_lt (show min k kvs.length ≤ 1000 by omega) (by decide)
    · show upd (upd H D _) D _ = _
      rw [upd_upd, take_succ_get hp, List.map_append, List.map_append]
      rfl
  · rintro H' rfl
    rw [List.length_map, List.take_length]
    exact hq
end K21

set_option Elab.async false
set_option linter.all false
set_option maxRecDepth 100000
set_option maxHeartbeats 4000000
set_option exponentiation.threshold 2000
/-! The walk: small courses are right. -/
namespace K21
open PySem PySem.Spec PyProof.Rows L2
local macro_rules | `(tactic| walk_at "pos") => `(tactic| first | assumption | ((with_reducible show (0 : Int) < _); first | assumption | omega | decide) | decide)
local macro_rules | `(tactic| walk_at "b") => `(tactic| (repeat' (first | ((with_reducible show Bd _ _); first | assumption | exact Bd.lit64 (by decide) | (refine' Bd.add ?_ ?_) | (refine' Bd.sub ?_ ?_) | (refine' Bd.mul ?_ ?_) | (refine' Bd.neg ?_) | (refine' Bd.div ?_ ?_) | (refine' Bd.mod ?_ ?_)) | ((with_reducible show (_ : Int) < _); first | assumption | omega))))
local macro_rules | `(tactic| walk_at "mul") => `(tactic| exact Bd.mulW (by walk_at "b") (by walk_at "b") (by decide))
local macro_rules | `(tactic| walk_at "div") => `(tactic| exact Bd.divW (by walk_at "pos") (by walk_at "b") (by decide))
section
variable {P : Program} {w : World} {K : PySem.W.Frag} {mg : Str → Option Value} {base : Heap}
def sp_L_small_right : Sp := fun vs H Q _ => ∃ (d : Addr) (n : Nat), vs = [.ref d] ∧ Tape H d n ∧ n + 200 ≤ 1000000 ∧ ∀ H', SameX d H H' → Tape H' d (n + 200) → Q (.bl true) H'
theorem sc_L_small_right : FnScope ["_law_tape", "_law_told", "_law_houses", "_law_start", "_law_rise", "_law_run", "_law_made", "_law_turn", "_law_rows", "_law_house_here", "_law_visits", "_law_own", "_law_counts", "_law_at", "_law_gap", "_law_due", "_law_k", "_law_key"] ["_law_tape"] (C8.fnScope s_L_small_right) := C8.fnScope_by (by decide +kernel)
theorem cal_L_small_right (T : Txt K mg) : C8.Cal P w K mg base 8 "_law_small_right" sp_L_small_right [] := by
  refine cal_mk (T.D_L_small_right) (T.g_L_small_right) (fun _ _ _ _ _ _ us hl => match us, hl with | [_], _ => rfl) sc_L_small_right (fun vs H Q E h => ?_) (fun cdv A outer s H vs Q E hr h => ?_)
  · obtain ⟨d, n, rfl, _⟩ := h
    rfl
  · obtain ⟨d, n, rfl, tp, nn, k⟩ := h
    refine ⟨_, (pss_cons (ps_set (i := 1) sc_L_small_right.nd rfl (Or.inr rfl) (C8.pe_c (cal_L_drawn T) hr (by decide) rfl (pa_cons (pv 0) (pa_cons pe_int pa_nil))))
      (pss_cons (ps_asg (pv 1) (pg_tup rfl (pgs_cons (pg_name (i := 2) sc_L_small_right.nd rfl (Or.inl rfl)) (pgs_cons (pg_name (i := 3) sc_L_small_right.nd rfl (Or.inl rfl)) (pgs_cons (pg_name (i := 4) sc_L_small_right.nd rfl (Or.inl rfl)) (pgs_cons (pg_name (i := 5) sc_L_small_right.nd rfl (Or.inl rfl)) pgs_nil))))))
      (pss_cons (ps_par (i := 6) (j := 7) (by rfl) sc_L_small_right.nd rfl rfl (by decide) rfl rfl (pa_cons (C8.pe_mk (mak_Course T) hr (by decide) rfl (pa_cons (pv 2) (pa_cons (pv 3) (pa_cons (pv 4) (pa_cons (pv 5) pa_nil))))) (pa_cons (pe_op op_mulW (pv 5) (pv 2)) pa_nil)) (by rfl))
      (pss_cons (ps_set (i := 8) sc_L_small_right.nd rfl (Or.inr rfl) (pe_lc (own := [("_law_k", 16)]) (g := gName 16) (tt := tYes) rfl sc_L_small_right.nd (pi_range1 rfl T.f_range (pa_cons (pe_op op_mulW pe_int (pv 7)) pa_nil)) (blkOk_by (N := ["_law_tape", "_law_told", "_law_houses", "_law_start", "_law_rise", "_law_run", "_law_made", "_law_turn", "_law_rows", "_law_house_here", "_law_visits", "_law_own", "_law_counts", "_law_at", "_law_gap", "_law_due", "_law_k", "_law_key"]) (sc := C8.fnScope s_L_small_right) (by decide +kernel)) (fun _ _ _ _ _ => (pg_name (i := 16) sc_L_small_right.nd rfl (Or.inl rfl))) (fun _ _ _ _ _ => pts_nil) (fun _ _ _ _ _ => (C8.pe_c (cal_L_house T) hr (by decide) rfl (pa_cons (pv 1) (pa_cons (pv 16) pa_nil))))))
      (pss_cons (ps_for PassesOwn.never rfl (pi_range1 rfl T.f_range (pa_cons (pe_callB (call_min2 rfl) (by rfl) T.f_min b_min (pa_cons (pv 2) (pa_cons pe_int pa_nil))) pa_nil)) (pg_name (i := 9) sc_L_small_right.nd rfl (Or.inr rfl))
      (pss_cons (ps_setLc (i := 10) (own := [("_law_k", 16)]) (g := gName 16) rfl sc_L_small_right.nd rfl rfl (by rfl) (pi_range1 rfl T.f_range (pa_cons (pe_op op_mulW pe_int (pv 7)) pa_nil)) (blkOk_by (N := ["_law_tape", "_law_told", "_law_houses", "_law_start", "_law_rise", "_law_run", "_law_made", "_law_turn", "_law_rows", "_law_house_here", "_law_visits", "_law_own", "_law_counts", "_law_at", "_law_gap", "_law_due", "_law_k", "_law_key"]) (sc := C8.fnScope s_L_small_right) (by decide +kernel)) (fun _ _ _ _ _ => (pg_name (i := 16) sc_L_small_right.nd rfl (Or.inl rfl))) (fun _ _ _ _ _ => (pts_one (pt_cmpR op_eq (pe_ix (r := rIxL K) ix_list (pv 8) (pv 16) (fun _ _ => rfl)) (pv 9) (nomark _)))) (fun _ _ _ _ _ => (pv 16)))
      (pss_cons (ps_asg (pe_tup (pa_cons (C8.pe_mt0 (met_C_turn T) hr (by decide) (pv 6)) (pa_cons pe_dnewK pa_nil))) (pg_tup rfl (pgs_cons (pg_name (i := 11) sc_L_small_right.nd rfl (Or.inl rfl)) (pgs_cons (pg_name (i := 12) sc_L_small_right.nd rfl (Or.inr rfl)) pgs_nil))))
      (pss_cons (ps_for PassesOwn.never rfl (pi_range1 rfl T.f_range (pa_cons (pe_op op_sub (pe_callB call_len_seq (by rfl) T.f_len b_len (pa_cons (pv 10) pa_nil)) pe_int) pa_nil)) (pg_name (i := 13) sc_L_small_right.nd rfl (Or.inl rfl))
      (pss_one (ps_if (pt_cmpR op_lt (pe_ix ix_list (pv 10) (pv 13) (fun _ _ => rfl)) (pv 11) (nomark _)) (pss_cons (ps_set (i := 14) sc_L_small_right.nd rfl (Or.inl rfl) (pe_op op_sub (pe_ix ix_list (pv 10) (pe_op op_add (pv 13) pe_int) (fun _ _ => rfl)) (pe_ix ix_list (pv 10) (pv 13) (fun _ _ => rfl))))
      (pss_one (ps_dput (hu_of hr) (pv 12) (pv 14) (pe_op op_add (pe_dget2 (hu_of hr) (pv 12) (pv 14) pe_int ⟨rfl, rfl, rfl, rfl⟩) pe_int) rfl)))
      pss_nil)))
      (pss_cons (ps_set (i := 15) sc_L_small_right.nd rfl (Or.inl rfl) (pe_callTy call_tuple_of (by rfl) T.f_tuple b_tuple (pa_cons (pe_lc (own := [("_law_gap", 14)]) (g := gName 14) (tt := tYes) rfl sc_L_small_right.nd (pi_list (pe_callB cr_sortedI (by rfl) T.f_sorted b_sorted (pa_cons (pe_lock (pe_lc (own := [("_law_key", 17)]) (g := gName 17) (tt := tYes) rfl sc_L_small_right.nd (pi_keys (pv 12)) (blkOk_by (N := ["_law_tape", "_law_told", "_law_houses", "_law_start", "_law_rise", "_law_run", "_law_made", "_law_turn", "_law_rows", "_law_house_here", "_law_visits", "_law_own", "_law_counts", "_law_at", "_law_gap", "_law_due", "_law_k", "_law_key"]) (sc := C8.fnScope s_L_small_right) (by decide +kernel)) (fun _ _ _ _ _ => (pg_name (i := 17) sc_L_small_right.nd rfl (Or.inl rfl))) (fun _ _ _ _ _ => pts_nil) (fun _ _ _ _ _ => (pe_callTy call_intI (by rfl) T.f_int b_int (pa_cons (pv 17) pa_nil))))) pa_nil))) (blkOk_by (N := ["_law_tape", "_law_told", "_law_houses", "_law_start", "_law_rise", "_law_run", "_law_made", "_law_turn", "_law_rows", "_law_house_here", "_law_visits", "_law_own", "_law_counts", "_law_at", "_law_gap", "_law_due", "_law_k", "_law_key"]) (sc := C8.fnScope s_L_small_right) (by decide +kernel)) (fun _ _ _ _ _ => (pg_name (i := 14) sc_L_small_right.nd rfl (Or.inl rfl))) (fun _ _ _ _ _ => pts_nil) (fun _ _ _ _ _ => (pe_tup (pa_cons (pv 14) (pa_cons (pe_dget (hu_of hr) (pv 12) (pv 14) (fun _ _ => rfl)) pa_nil))))) pa_nil)))
      (pss_one (ps_if (PW.pt (pw_or (PW.pt (pw_and (pt_cmpR op_gt (pe_callB call_len_seq (by rfl) T.f_len b_len (pa_cons (pv 10) pa_nil)) pe_int (nomark _)) (pw_and1 (pt_cmpR (op_neD hr.units) (C8.pe_mt (met_C_gaps T) hr (by decide) (pv 6) (pa_cons (pv 9) pa_nil)) (pv 15) (nomark _))))) (pw_or1 (PW.pt (pw_and (pt_cmpR (op_eqD hr.units) (pv 10) (pe_lst pa_nil) (nomark _)) (pw_and1 (pt_cmpR op_notN (C8.pe_mt (met_C_gaps T) hr (by decide) (pv 6) (pa_cons (pv 9) pa_nil)) pe_non (nomark _)))))))) (pss_one (ps_ret pe_bl))
      pss_nil)))))))
      (pss_one (ps_ret pe_bl))))))), ?_⟩
    refine ⟨_, rfl, d, 1, n, rfl, by decide, by decide, tp, by omega, fun t H1 h S e q sx1 tp1 ht dr => ?_⟩
    have h1 := dr.h1
    have q1 := dr.q1
    have h11 : h ≤ 11 := dr.hh
    have q10 : q ≤ 10 := dr.qq
    have bh : Bd 64 h := (Bd.lit64 (x := 11) (by decide)).le (by omega) h11
    have bq : Bd 64 q := (Bd.lit64 (x := 10) (by decide)).le (by omega) q10
    have ok := nrm_ok (h := h) (s := S) (e := e) (q := q) dr.h1 dr.q1
    have sm : (nrm h S e q).Sm := nrm_sm dr.h1 dr.q1 (bh.mono (by decide)) (bq.mono (by decide))
    refine ⟨_, rfl, t, _, rfl, SqT.of ht, rfl, _, _, rfl, _, _, rfl, _, _, rfl, _, _, rfl, rfl, ?_⟩
    refine ⟨_, rfl, _, rfl, _, rfl, _, rfl, fun p dx np ndx ne => ?_⟩
    refine ⟨p, dx, h, S, e, q, rfl, dr.h1, dr.q1, dr.cop, bh.mono (by decide), bq.mono (by decide), upd_same, rfl, _, rfl, _, rfl, _, _, rfl, rfl, Bd.mulW bq bh, _, _, rfl, ?_⟩
    have hc : (nrm h S e q).h = h := rfl
    have vis := fun x (x0 : 0 ≤ x) (xh : x < h) k => nrm_vis (h := h) (s := S) (e := e) (q := q) (x := x) h1 q1 x0 xh k
    generalize hH2 : upd (upd (upd H1 dx _) p _) p _ = H2
    have S2 : Same H1 H2 := by
      rw [← hH2]
      exact same_made np ndx
    have hp2 : H2 p = some (.ins (He.ga K "Course") dx (crsF (nrm h S e q))) := by
      rw [← hH2]
      exact upd_same
    clear hH2
    have tp2 := tp1.same S2
    have ht2 := S2 _ _ ht
    have SX2 := sx1.trans (SameX.of S2)
    clear S2 tp1 ht sx1 np ndx ne tp
    have M1 := ok.M1
    have Mm := ok.Mm
    have m2 : (nrm h S e q).m ≤ q * h := by
      rw [nrm_m]
      split
      · exact Int.le_refl _
      · exact Int.mul_le_mul_of_nonneg_right (by omega) (by omega)
    have qh : q * h ≤ 110 := by
      have := Int.mul_le_mul (a := q) (b := h) q10 h11 (by omega) (by decide)
      omega
    have qh0 : 0 ≤ q * h := Int.mul_nonneg (by omega) (by omega)
    generalize hcc : nrm h S e q = c at ok sm hc hp2 vis M1 Mm m2 ⊢
    have hM : ((c.Mn : Nat) : Int) = c.M := Int.toNat_of_nonneg (by omega)
    -- rows
    refine ⟨_, rfl, _, _, rfl, rfl, Bd.mulW (Bd.lit64 (x := 2) (by decide)) (Bd.mul bq bh), _, rfl, by omega, by omega, fun D nD => ?_⟩
    obtain ⟨NN, hNN⟩ : ∃ NN : Nat, NN = (2 * (q * h)).toNat := ⟨_, rfl⟩
    rw [← hNN]
    have N220 : NN ≤ 220 := by omega
    have NM : 2 * c.Mn ≤ NN := by omega
    refine lc_rngF (fun _ => true) (fun k : Nat => V.int ((S + e * ((0 : Int) + (k : Int))) / q % h)) nD (by omega) (fun _ => rfl) (fun k H' Q' hk sk q => q) (fun k H' Q' hk _ sk q' => ?_) ?_
    · have bk : Bd 64 ((0 : Int) + (k : Int)) := (Bd.lit64 (x := 220) (by decide)).le (by omega) (by omega)
      exact ⟨_, rfl, _, rfl, t, h, S, e, q, _, rfl, sk _ _ ht2, by omega, by omega, bh.mono (by decide), bq.mono (by decide), dr.be.mono (by decide), bk.mono (by decide), q'⟩
    have fl : ((List.range NN).filter fun _ => true) = List.range NN := List.filter_eq_self.mpr fun _ _ => rfl
    rw [fl]
    have hD3 : upd H2 D (.lst ((List.range NN).map fun k : Nat => V.int ((S + e * ((0 : Int) + (k : Int))) / q % h))) D = some (.lst ((List.range NN).map fun k : Nat => V.int ((S + e * ((0 : Int) + (k : Int))) / q % h))) := upd_same
    have s3 := Same.new (o := .lst ((List.range NN).map fun k : Nat => V.int ((S + e * ((0 : Int) + (k : Int))) / q % h))) nD
    have hp3 := s3 _ _ hp2
    have tp3 := tp2.same s3
    have SX3 := SX2.trans (SameX.of s3)
    have row : ∀ k, k < NN → ((List.range NN).map fun k : Nat => V.int ((S + e * ((0 : Int) + (k : Int))) / q % h))[k]? = some (.int ((S + e * (k : Int)) / q % h)) := fun k hk => by
      rw [List.getElem?_map, List.getElem?_range hk, ← Int.zero_add (k : Int)]
      simp
    generalize ((List.range NN).map fun k : Nat => V.int ((S + e * ((0 : Int) + (k : Int))) / q % h)) = RW at hD3 s3 hp3 tp3 SX3 row ⊢
    generalize upd H2 D (.lst RW) = H3 at hD3 s3 hp3 tp3 SX3 ⊢
    clear s3 hp2 tp2 ht2 nD fl
    -- the houses
    refine ⟨_, rfl, _, _, rfl, _, rfl, ?_, ?_, ?_⟩
    · split <;> omega
    · split <;> omega
    refine for_range (fun i σ H' => ∃ v9 v10 v11 v12 v13 v14 v15 : Option V, σ = [some (.ref d), some (.ref t), some (.int h), some (.int S), some (.int e), some (.int q), some (.ref p), some (.int (q * h)), some (.ref D), v9, v10, v11, v12, v13, v14, v15, none, none] ∧ Same H3 H')
      ⟨none, none, none, none, none, none, none, rfl, Same.refl H3⟩ ?_ ?_
    · rintro i σ H4 hi ⟨v9, v10, v11, v12, v13, v14, v15, rfl, S4⟩
      have ih : (i : Int) < h := by
        split at hi <;> omega
      have x0 : (0 : Int) ≤ 0 + (i : Int) := by omega
      have xh : (0 : Int) + (i : Int) < h := by omega
      have vis := vis _ x0 xh
      have hc' : c.h = h := by rw [← hcc]; rfl
      have xh' : (0 : Int) + (i : Int) < c.h := by rw [hc']; exact xh
      generalize (0 : Int) + (i : Int) = x at x0 xh vis xh' ⊢
      have hp4 := S4 _ _ hp3
      -- the visits
      refine ⟨_, rfl, _, _, rfl, rfl, Bd.mulW (Bd.lit64 (x := 2) (by decide)) (Bd.mul bq bh), _, rfl, by omega, by omega, fun VD nV => ?_⟩
      rw [← hNN]
      refine lc_rngF (fun k => c.vis x k) (fun k => V.int ((0 : Int) + (k : Int))) nV (by omega) (fun _ => rfl) (fun k H' Q' hk sk q' => ?_) (fun k H' Q' hk _ sk q' => ⟨_, rfl, q'⟩) ?_
      · have at_ : atI RW ((0 : Int) + (k : Int)) = some (.int ((S + e * (k : Int)) / q % h)) := by
          rw [Int.zero_add]
          exact atI_nat (row k hk)
        refine ⟨_, rfl, _, rfl, D, _, _, _, rfl, rfl, SqL.of (sk _ _ (S4 _ _ hD3)), at_, _, rfl, rfl, _, rfl, ?_⟩
        have e1 : decide (V.int ((S + e * (k : Int)) / q % h) = V.int x) = c.vis x k := by
          rw [dec_int0, Bool.eq_iff_iff, decide_eq_true_iff, vis k]
        show Q' (decide (V.int ((S + e * (k : Int)) / q % h) = V.int x)) H'
        rw [e1]
        exact q'
      have s5 : Same H4 (upd H4 VD (.lst (((List.range NN).filter fun k => c.vis x k).map fun k : Nat => V.int ((0 : Int) + (k : Int))))) := Same.new nV
      have hV : upd H4 VD (.lst (((List.range NN).filter fun k => c.vis x k).map fun k : Nat => V.int ((0 : Int) + (k : Int)))) VD = some (.lst ((visL (c.vis x) NN).map fun k : Nat => V.int (k : Int))) := by
        rw [upd_same]
        congr 2
        refine List.map_congr_left fun k _ => ?_
        rw [Int.zero_add]
      have mV : ∀ k, k ∈ visL (c.vis x) NN → k < NN := fun k hk => (mem_visL.mp hk).1
      have lV : (visL (c.vis x) NN).length ≤ 220 := by
        have := List.length_filter_le (c.vis x) (List.range NN)
        rw [List.length_range] at this
        show ((List.range NN).filter (c.vis x)).length ≤ 220
        omega
      have law1 : c.each x = 0 → visL (c.vis x) NN = [] := fun z => by
        unfold visL
        rw [List.filter_eq_nil_iff]
        intro k _
        rw [ok.never z]
        decide
      have law2 : ∀ L, Told (c.vis x) c.Mn (c.each x) L → 2 ≤ (visL (c.vis x) NN).length ∧ ∀ v n, (v, n) ∈ L ↔ 0 < n ∧ n = ((gapsTo (visL (c.vis x) NN) c.Mn ((visL (c.vis x) NN).length - 1)).count v : Nat) := fun L T => by
        obtain ⟨g, G, _, hL⟩ := T.gap
        obtain ⟨l2, e2⟩ := gapsTo_all G NM
        refine ⟨l2, fun v n => ?_⟩
        rw [hL, e2, count_sum]
      generalize upd H4 VD (.lst (((List.range NN).filter fun k => c.vis x k).map fun k : Nat => V.int ((0 : Int) + (k : Int)))) = H5 at s5 hV ⊢
      clear nV row
      generalize visL (c.vis x) NN = VL at hV mV lV law1 law2 ⊢
      have S5 := S4.trans s5
      have hp5 := s5 _ _ hp4
      clear S4 s5 hp4
      -- the counts
      refine ⟨_, rfl, _, _, _, rfl, hp5, rfl, p, c, rfl, ⟨_, hp5⟩, sm, fun dd ndd => ⟨by show 2 ≤ sizeLine; decide, fun tt ntt => ⟨tt, _, rfl, SqT.of upd_same, rfl, _, _, rfl, _, _, rfl, rfl, ?_⟩⟩⟩
      have dtt : dd ≠ tt := fun z => by rw [← z, upd_same] at ntt; cases ntt
      generalize hH6 : upd (upd H5 dd _) tt _ = H6
      have S6 : Same H5 H6 := by
        rw [← hH6]
        exact (Same.new ndd).add ntt
      have hd6 : H6 dd = some (.dK (([] : List (Int × Int)).map enc)) := by
        rw [← hH6, upd_ne dtt, upd_same]
        rfl
      clear hH6 ntt dtt
      refine ⟨_, rfl, VD, _, rfl, Or.inl (SqL.of (S6 _ _ hV)), _, _, rfl, rfl, _, rfl, ?_, ?_, ?_⟩
      · rw [List.length_map]
        omega
      · rw [List.length_map]
        omega
      rw [List.length_map]
      refine for_range (fun j σ H' => ∃ (v13 v14 : Option V) (kvs : List (Int × Int)), σ = [some (.ref d), some (.ref t), some (.int h), some (.int S), some (.int e), some (.int q), some (.ref p), some (.int (q * h)), some (.ref D), some (.int x), some (.ref VD), some (.int c.M), some (.ref dd), v13, v14, v15, none, none] ∧ Same H5 H' ∧
        H' dd = some (.dK (kvs.map enc)) ∧ Cnt kvs (gapsTo VL c.Mn j) ∧ kvs.length ≤ j) ⟨_, _, [], rfl, S6, hd6, Cnt.nil, Nat.le_refl 0⟩ ?_ ?_
      · rintro j σ H' hj ⟨v13, v14, kvs, rfl, s, hdd, cnt, kl⟩
        have hV' := s _ _ hV
        have j1 : j + 1 < VL.length := by omega
        obtain ⟨a, ha⟩ : ∃ a, VL[j]? = some a := ⟨_, List.getElem?_eq_getElem (by omega)⟩
        obtain ⟨b, hb⟩ : ∃ b, VL[j + 1]? = some b := ⟨_, List.getElem?_eq_getElem j1⟩
        have at0 : atI (VL.map fun k : Nat => V.int (k : Int)) ((0 : Int) + (j : Int)) = some (.int a) := by
          rw [Int.zero_add]
          exact atI_nat (by rw [List.getElem?_map, ha]; rfl)
        have at1 : atI (VL.map fun k : Nat => V.int (k : Int)) ((0 : Int) + (j : Int) + 1) = some (.int b) := by
          rw [show (0 : Int) + (j : Int) + 1 = ((j + 1 : Nat) : Int) by omega]
          exact atI_nat (by rw [List.getElem?_map, hb]; rfl)
        have ga : VL.getD j 0 = a := by rw [List.getD_eq_getElem?_getD, ha]; rfl
        have gb : VL.getD (j + 1) 0 = b := by rw [List.getD_eq_getElem?_getD, hb]; rfl
        have gs := gapsTo_succ VL c.Mn j
        rw [ga] at gs
        have gj : gapJ VL j = (b : Int) - (a : Int) := by
          unfold gapJ
          rw [ga, gb]
        rw [gj] at gs
        refine ⟨_, rfl, _, rfl, VD, _, _, _, rfl, rfl, SqL.of hV', at0, _, rfl, _, _, rfl, rfl, _, rfl, ite2 (fun z => ?_) (fun z => ?_)⟩
        · have aM : a < c.Mn := by
            have : (a : Int) < c.M := of_decide_eq_true z
            omega
          rw [if_pos aM] at gs
          refine ⟨_, rfl, _, rfl, _, _, rfl, rfl, VD, _, _, _, rfl, rfl, SqL.of hV', at1, _, rfl, _, rfl, VD, _, _, _, rfl, rfl, SqL.of hV', at0, _, _, rfl, rfl, ?_⟩
          have gl : valV (kvs.map enc) (.inl ((b : Int) - (a : Int)) : Key) = valV (kvs.map enc) (.inl ((b : Int) - (a : Int)) : Key) := rfl
          refine ⟨_, rfl, dd, rfl, .inl ⟨_, .inl hdd⟩, _, rfl, _, DGet.k (k := .inl ((b : Int) - (a : Int))) hdd, _, _, cnt.getD _, rfl, ?_⟩
          refine ⟨_, rfl, _, rfl, dd, _, rfl, DPut.k (k := .inl ((b : Int) - (a : Int))) hdd ?_, ?_⟩
          · rw [List.length_map]
            exact Nat.lt_of_le_of_lt (show kvs.length ≤ 220 by omega) (by decide)
          · refine ⟨_, _, putI kvs ((b : Int) - (a : Int)) (((gapsTo VL c.Mn j).count ((b : Int) - (a : Int)) : Nat) + 1), rfl, Same.mut s ndd, ?_, ?_, ?_⟩
            · rw [upd_same, enc_put]
            · rw [gs]
              exact cnt.put _
            · have := putI_len kvs ((b : Int) - (a : Int)) (((gapsTo VL c.Mn j).count ((b : Int) - (a : Int)) : Nat) + 1)
              omega
        · have aM : ¬ a < c.Mn := fun y => z (decide_eq_true (show (a : Int) < c.M by omega))
          rw [if_neg aM, List.append_nil] at gs
          exact ⟨_, _, kvs, rfl, s, hdd, by rw [gs]; exact cnt, by omega⟩
      · rintro σ H7 ⟨v13, v14, kvs, rfl, S7, hdd, cnt, kl⟩
        rw [show ((VL.length : Int) - 1).toNat = VL.length - 1 by omega] at cnt kl
        generalize hG : gapsTo VL c.Mn (VL.length - 1) = G at cnt law2
        have kl' : kvs.length ≤ 220 := by omega
        clear kl hG
        refine ⟨dd, _, hdd, trivial, fun od => ?_⟩
        refine ⟨_, rfl, dd, od, rfl, Or.inl ⟨_, upd_same, fun D2 nD2 => ?_⟩⟩
        refine lc_keysI upd_same nD2 (by omega) (fun _ => rfl) (fun v H' Q' q => ⟨_, rfl, _, rfl, q⟩) ?_
        have d2 : dd ≠ D2 := fun z => by rw [← z, upd_same] at nD2; cases nD2
        refine ⟨by rw [upd_ne d2, upd_same], ?_⟩
        generalize hH8 : upd (upd (upd H7 dd _) D2 _) dd _ = H8
        have S8 : Same H5 H8 := by
          rw [← hH8]
          exact Same.mut (Same.add (Same.mut S7 ndd) nD2) ndd
        have hdd8 : H8 dd = some (.dK (kvs.map enc)) := by
          rw [← hH8]
          exact upd_same
        have hK8 : H8 D2 = some (.lst ((kvs.map (·.1)).map V.int)) := by
          rw [← hH8, upd_ne d2.symm]
          exact upd_same
        clear hH8 nD2 S7 hdd
        refine ⟨D2, _, rfl, SqL.of hK8, fun ns p3 pm so np3 => ?_⟩
        have hdd9 := Same.new (o := .lst (ns.map V.int)) np3 _ _ hdd8
        have S9 := S8.add (o := .lst (ns.map V.int)) np3
        have hp9 : upd H8 p3 (.lst (ns.map V.int)) p3 = some (.lst (ns.map V.int)) := upd_same
        generalize upd H8 p3 (.lst (ns.map V.int)) = H9 at hdd9 S9 hp9 ⊢
        clear S8 hdd8 hK8 np3
        have nsl : ns.length ≤ 220 := by
          have := pm.length_eq
          rw [List.length_map] at this
          omega
        refine ⟨p3, rfl, ⟨_, SqL.of hp9⟩, fun D4 nD4 => ?_⟩
        refine lc_list (K := K) (a := p3) (xs := ns.map V.int) (fun i H' => Same H9 H' ∧ ∃ acc, H' D4 = some (.lst acc) ∧ Prs H' acc ((ns.take i).map fun v => (v, ((G.count v : Nat) : Int))))
          ⟨Same.new nD4, [], upd_same, Prs.nil⟩ (fun i H' _ q => SqL.of (q.1 _ _ hp9)) ?_ ?_
        · rintro j y H' hy ⟨s, acc, hacc, pa⟩
          rw [List.getElem?_map] at hy
          obtain ⟨v, ev, rfl⟩ := Option.map_eq_some_iff.mp hy
          have vc : 0 < G.count v := (cnt.key v).mp (pm.mem_iff.mp (List.mem_of_getElem? ev))
          have g1 : DGet H' dd (.int v) (some (.int (G.count v : Nat))) := by
            have := DGet.k (k := .inl v) (s _ _ hdd9)
            rw [cnt.get, if_pos vc] at this
            exact this
          refine ⟨rfl, _, rfl, _, rfl, _, rfl, dd, _, rfl, g1, by show 2 ≤ sizeLine; decide, fun q nq => ⟨acc, ?_, ?_, ?_, acc ++ [.ref q], upd_same, ?_⟩⟩
          · rw [upd_ne (ne_of_none hacc nq)]
            exact hacc
          · have l1 := pa.len
            rw [List.length_map, List.length_take] at l1
            exact Nat.lt_of_le_of_lt (show acc.length ≤ 220 by omega) (by decide)
          · exact Same.mut (s.add nq) nD4
          · rw [take_succ_get ev, List.map_append]
            have nDq : D4 ≠ q := ne_of_none hacc nq
            refine (pa.mono fun b ys e => ?_).snoc ?_
            · rw [upd_ne (ne_of e hacc (fun z => by cases z)), upd_ne (ne_of_none e nq)]
              exact e
            · rw [upd_ne nDq.symm, upd_same]
        · rintro H10 ⟨s, acc, hacc, pa⟩
          rw [List.length_map, List.take_length] at pa
          refine ⟨D4, acc, rfl, Or.inl ⟨SqL.of hacc, fun g ng => ?_⟩⟩
          have S11 := (S9.trans s).add (o := .tup acc) ng
          have hg11 : upd H10 g (.tup acc) g = some (.tup acc) := upd_same
          have pa11 := pa.mono fun b ys e => Same.new (o := .tup acc) ng _ _ e
          have due : ∀ L, Told (c.vis x) c.Mn (c.each x) L → (ns.map fun v => (v, ((G.count v : Nat) : Int))) = L := fun L T => cnt_due cnt pm so T.asc (law2 L T).2
          generalize (ns.map fun v => (v, ((G.count v : Nat) : Int))) = LL at pa11 due
          generalize upd H10 g (.tup acc) = H11 at S11 hg11 pa11 ⊢
          clear ng pa hacc s hp9 hdd9 pm so cnt nsl
          have hp11 := S11 _ _ hp5
          have hV11 : H11 VD = some (.lst ((VL.map fun k : Nat => (k : Int)).map V.int)) := by
            rw [S11 _ _ hV, List.map_map]
            rfl
          have done : ∀ {H' : Hp}, Same H11 H' → ∃ v9 v10 v11 v12 v13' v14' v15 : Option V, [some (V.ref d), some (.ref t), some (.int h), some (.int S), some (.int e), some (.int q), some (.ref p), some (.int (q * h)), some (.ref D), some (.int x), some (.ref VD), some (.int c.M), some (.ref dd), v13, v14, some (.ref g), none, none] =
              [some (.ref d), some (.ref t), some (.int h), some (.int S), some (.int e), some (.int q), some (.ref p), some (.int (q * h)), some (.ref D), v9, v10, v11, v12, v13', v14', v15, none, none] ∧ Same H3 H' := fun s => ⟨_, _, _, _, _, _, _, rfl, S5.trans (S11.trans s)⟩
          refine ⟨_, rfl, VD, _, rfl, Or.inl (SqL.of hV11), _, _, rfl, rfl, _, rfl, ite2 (fun z => ?_) (fun z => ?_)⟩
          · have z1 : 1 < VL.length := by
              have z' : (1 : Int) < (((VL.map fun k : Nat => (k : Int)).map V.int).length : Int) := of_decide_eq_true z
              rw [List.length_map, List.length_map] at z'
              omega
            refine ⟨_, rfl, _, _, _, rfl, hp11, rfl, _, rfl, p, c, x, rfl, ⟨_, hp11⟩, sm, x0, xh', fun v H12 s12 gr => ?_⟩
            rcases gr with ⟨ez, _⟩ | ⟨_, g2, xs, L, rfl, hg2, pL, T⟩
            · rw [law1 ez] at z1
              exact absurd z1 (by decide)
            obtain rfl := due L T
            refine ⟨_, rfl, _, _, .tup (SqT.of hg2) (dp_prs pL), .tup (SqT.of (s12 _ _ hg11)) (dp_prs (pa11.mono fun b ys e => s12 _ _ e)), shaped_prs _, shaped_prs _, _, rfl, ite2 (fun y => ?_) (fun _ => ?_)⟩
            · exfalso
              have y' : (!PyData.eqvAll (LL.map pd) (LL.map pd)) = true := by
                have h := y
                rw [PyData.eqv] at h
                exact h
              rw [eqv_prs] at y'
              cases y'
            refine ⟨_, rfl, by show 0 ≤ sizeLine; decide, fun l nl => ?_⟩
            refine ⟨_, _, .lst (SqL.of (Same.new nl _ _ (s12 _ _ hV11))) (dp_ints _), .lst (SqL.of upd_same) .nil, PySem.W.ke_shaped_ints _, rfl, _, rfl, ite2 (fun y => ?_) (fun _ => iteF (done (s12.add nl)))⟩
            exfalso
            rw [eqv_nil] at y
            match VL, z1, y with
            | _ :: _, _, y => cases y
          · refine ⟨_, rfl, by show 0 ≤ sizeLine; decide, fun l nl => ?_⟩
            refine ⟨_, _, .lst (SqL.of (Same.new nl _ _ hV11)) (dp_ints _), .lst (SqL.of upd_same) .nil, PySem.W.ke_shaped_ints _, rfl, _, rfl, ite2 (fun y => ?_) (fun _ => iteF (done (Same.new nl)))⟩
            rw [eqv_nil] at y
            have hp12 := Same.new (o := .lst []) nl _ _ hp11
            refine ⟨_, rfl, _, _, _, rfl, hp12, rfl, _, rfl, p, c, x, rfl, ⟨_, hp12⟩, sm, x0, xh', fun v H12 s12 gr => ?_⟩
            rcases gr with ⟨ez, rfl⟩ | ⟨_, g2, xs, L, rfl, hg2, pL, T⟩
            · exact ⟨rfl, _, rfl, iteF (done ((Same.new nl).trans s12))⟩
            · exfalso
              have l2 := (law2 L T).1
              match VL, l2, y with
              | _ :: _, _, y => cases y
    · rintro σ H4 ⟨v9, v10, v11, v12, v13, v14, v15, rfl, S4⟩
      exact k _ (SX3.trans (SameX.of S4)) ((tp3.same S4).mono (by omega))
end
end K21

set_option Elab.async false
set_option linter.all false
set_option maxRecDepth 100000
set_option maxHeartbeats 4000000
/-! The own errors: BadValue, made by its own __init__ over super's. -/
namespace K21
open PySem PySem.Spec PyProof.Rows
abbrev s_B_init : Stmt := L2.inClass (top 3) 0
abbrev bA : Arguments := C8.fnArgs s_B_init
abbrev bB : List Stmt := C8.fnBody s_B_init
abbrev bS : Scope := C8.fnScope s_B_init
/-- what the written part says of BadValue, at C, and of its __init__, at fI -/
structure BadTxt (P : Program) (K : PySem.W.Frag) (C fI : Addr) : Prop where
  ox : L2.OexC K C
  iC : PySem.W.findIn K (.ref C) "__init__" = some (some (.ref fI))
  tI : PySem.W.typeIn K (.ref fI) = some (.type "function")
  noN : PySem.W.findIn K (.ref C) "value" = some none
  sub : PySem.W.mroIn K C (.ref C) = some true
  subV : PySem.W.subIn K (.ref C) (.type "ValueError") = some true
  opq : PySem.W.nsIn K cStatics "thirdparty.any" = some none
  sup : PySem.W.ks_superIn K C C "__init__" = some (some (.builtin "ValueError.__init__"))
  top : (P.main.scope.names.lookup ("super" : Str)).isSome = false
  fn : ∃ (oc : Value) (od : Option Addr) (dV kV doc pm : Value) (an : Option Addr) (cda : Addr) (ct : Value) (osl : Array (Option Value)) (cc : Addr) (ccl : Value) (cdd : Option Addr) (vs : Array Value) (ccs : Array (Option Value)) (file : Str) (tf : Tok) (cl : Value) (cld : Option Addr) (csl : Array (Option Value)),
    K.lookup fI = some ⟨oc, od, .func (PySem.W.ksFn "__init__" "BadValue.__init__" bA bB bS dV kV doc pm an (.ref cda) ct cc), osl⟩ ∧ PySem.W.codeIn K (.ref cda) "BadValue.__init__" = true ∧
    K.lookup cda = some ⟨ccl, cdd, .fields vs, ccs⟩ ∧ vs[2]? = some (.str file tf) ∧ ((P.main.file : Str) == file) = true ∧ K.lookup cc = some ⟨cl, cld, .cell (some (.ref C)), csl⟩ ∧ dV = .none
/-- what __init__ leaves of a fresh exception at x -/
structure InitEnd (h h' : Heap) (x C dx t1 : Addr) (v : Value) : Prop where
  keep : ∀ b o, b ≠ x → h.get? b = some o → h'.get? b = some o
  obj : h'.get? x = some { cls := .ref C, dict := some dx, data := .fields #[.ref t1, .none, .none, .none, .bool false, .none] }
  dbig : h.objs.size ≤ dx
  dne : dx ≠ x
  ns : h'.Ns1 dx (fun y => if y = "value" then some v else none)
section
open PySem.W PySem.Calls PySem.HandSPX
variable {prog : Program} {w : World} {A : Around} {E : Value → Shared → Prop} {R : Result → Shared → Prop} {s : Shared} {K : Frag} {mg mb : Str → Option Value} {C fI : Addr}
theorem ldE {M : Model} {s : Shared} {env : Env} {m : Str → Option Value} {x : Str} {pos : Pos} {v : Value} {Q : Value → Shared → Prop} {A : Around} {E : Value → Shared → Prop} (hn : s.heap.Ns env.locals m) (hv : m x = some v) (h : Q v s)
    (hk : env.scope.kind = .function := by rfl) (hl : env.kindOf x = some .local := by rfl) (hd : (x == ("__debug__" : Str)) = false := by decide) :
    wpAny M A (eval (.Name x pos) env) Q E s := wpAny_Name (wpAny_loadName_local hk hl hn hv h) hd
theorem bad_init (T : BadTxt prog K C fI) {x t0 : Addr} {v : Value} (X : K.In s.heap) (G : s.heap.Ns mainGlobals mg) (hsup : mg "super" = none) (B : s.heap.Ns builtinsNs mb) (hb : mb "super" = some (.type "super")) (hlim : s.heap.NoLimit) (hx : s.heap.get? x = some (excO C t0)) (hnx : K.lookup x = none) (hroom : A.depth < recursionLimit)
    (hq : ∀ h' tk dx t1, InitEnd s.heap h' x C dx t1 v → R (.ok (.ret .none)) { s with heap := h', toks := tk }) :
    codeAny (model prog w) A (.call (.ref fI) ⟨[.ref x, v], []⟩) R s := by
  obtain ⟨oc, od, dV, kV, doc, pm, an, cda, ct, osl, cc, ccl, cdd, vs, ccs, file, tf, cl, cld, csl, ho, hcd, hcode, hvs, hfile, hcell, rfl⟩ := T.fn
  obtain ⟨nm, q, N, bs, bm, sn, sub, ab, col, dd, k0, k1, k2, k3, k5, hC, hbm⟩ := T.ox.cls
  have hcl : clsIn K C = some { name := nm, bases := bs, mro := .ref C :: bm, ns := N, qualname := q, hasDict := true, slotNames := sn, subclasses := sub, abstract := ab, collection := col, hasDel := false } := by unfold clsIn; rw [hC] <;> rfl
  refine ks_codeAny_call_defAt (fd := ksFn "__init__" "BadValue.__init__" bA bB bS .none kV doc pm an (.ref cda) ct cc) (body := bB) (binds := [("self", .ref x), ("value", v)]) hroom (X _ _ ho) rfl hlim (codeRec_of X hcd) rfl (BindsTo.of_eq (by first | rfl | with_unfolding_all rfl)) (by show ∀ x ∈ bS.names, x.2 ≠ .cell; decide +kernel) (fun y hy => ?_) (fun h₁ hns hk₁ => ?_) rfl rfl rfl
  · have k1 : bS.names.lookup ("self" : Str) = some .local := by decide +kernel
    have k2 : bS.names.lookup ("value" : Str) = some .local := by decide +kernel
    rcases List.mem_cons.mp hy with e | hy
    · rw [e]
      exact k1
    · rw [List.mem_singleton.mp hy]
      exact k2
  obtain ⟨hp, g, d, t, os⟩ := s
  have X₁ : K.In h₁ := fun a o e => hk₁ a o (X a o e)
  have hx₁ := hk₁ _ _ hx
  have hC₁ := X₁ _ _ hC
  have hself : (fun y => ([("self", .ref x), ("value", v)] : List (Str × Value)).reverse.lookup y) "self" = some (.ref x) := by first | rfl | with_unfolding_all rfl | kernel_rfl
  have hval : (fun y => ([("self", .ref x), ("value", v)] : List (Str × Value)).reverse.lookup y) "value" = some v := by first | rfl | with_unfolding_all rfl | kernel_rfl
  show _root_.PySem.wpAt _ _ _ (execs (_ :: _) _) _ _ _
  refine ks_wpAt_execs_cons (ks_wpAt_Expr_any (ks_wpAt_MethodCall ?_))
  refine ks_wpAt_super_base (f := fI) (cc := cda) (by kernel_rfl) (by kernel_rfl) (by decide) rfl (hk₁ _ _ (X _ _ ho)) rfl rfl rfl (X₁ _ _ hcode) rfl hvs hfile T.top ?_
  have G₁ : h₁.Ns mainGlobals mg := G.keeps hk₁
  have B₁ : h₁.Ns builtinsNs mb := B.keeps hk₁
  refine ks_loadName_global rfl (by kernel_rfl) (loadGlobal_builtin G₁ hsup B₁ hb ⟨rfl, ?_⟩)
  refine wpAny_loadName_free rfl (by kernel_rfl) rfl ⟨_, X₁ _ _ hcell, rfl⟩ ?_
  refine wpAny_loadName_local rfl (by kernel_rfl) hns hself ?_
  refine ks_wpAny_isType_cls hC₁ rfl ⟨rfl, ?_⟩
  refine ks_wpAny_call_super hC₁ rfl hx₁ rfl (fun c e => nomatch e) (looks_mroIn X₁ T.sub) (fun h₂ e₂ k₂ => ?_)
  have X₂ : K.In h₂ := fun a o e => k₂ a o (X₁ a o e)
  have hx₂ := k₂ _ _ hx₁
  have hC₂ := X₂ _ _ hC
  have hns₂ := hns.keeps k₂
  have xC : x ≠ C := fun z => by
    rw [z, X _ _ hC] at hx
    cases hx
  have tyx : Looks (model prog w) h₂ (typeOf (.ref x)) (.ref C) := fun A Q E s k q => wpAny_typeOf_ref (k _ _ hx₂) q
  have hm := T.sup
  unfold ks_superIn at hm
  rw [hcl, Option.bind_some] at hm
  refine kxs_getMethod kxs_ValueError (x := x) (C := C) (D := C) e₂ (looks_opaque X₂ T.opq) (l₀ := .ref C :: bm) (fun A Q E s k q => wpAny_bind ((looks_clsIn X₂ hcl) A _ E s k (wpAny_pure q))) rfl X₂ hm (tyx.andThen (looks_subIn X₂ T.subV)) xC (by decide) ?_
  have k₃ : ∀ b o, h₂.get? b = some o → (h₂.push (kxs_mw "ValueError.__init__" x)).get? b = some o := fun b o e => Heap.get?_push_of_some _ e
  have hu₃ : (h₂.push (kxs_mw "ValueError.__init__" x)).get? h₂.objs.size = some (kxs_mw "ValueError.__init__" x) := Heap.get?_push_at rfl rfl
  generalize h₂.objs.size = u at hu₃ ⊢
  generalize h₂.push (kxs_mw "ValueError.__init__" x) = h₃ at k₃ hu₃ ⊢
  have X₃ : K.In h₃ := fun a o e => k₃ a o (X₂ a o e)
  have hx₃ := k₃ _ _ hx₂
  have hC₃ := X₃ _ _ hC
  have hns₃ := hns₂.keeps k₃
  refine kxs_callWith (i := "ValueError.__init__") (x := x) rfl (evalArgs_plain (spliced_cons (ldE hns₃ hval (spliced_nil ⟨hu₃, ?_⟩) rfl (by kernel_rfl))))
  -- the call of the bound __init__
  refine wpAny_call (codeAny_of_tree ?_)
  show wpAny _ (Around.in1 _) (callAny (.ref u) ⟨[v], []⟩) _ _ _
  simp only [callAny]
  refine wpAny_bind (wpAny_load hu₃ ?_)
  simp only [kxs_mw, show (Value.type "method-wrapper" == Value.type "method" || Value.type "method-wrapper" == Value.type "builtin_function_or_method" || Value.type "method-wrapper" == Value.type "method-wrapper") = true by decide, if_true]
  refine KFB.if_so (by decide) ?_
  refine wpAny_bind (check_bound_init F.excBase_ValueError.toExcCallFacts hC₃ hx₃ rfl ?_)
  refine wpAny_bind (wpAny_pure (wpAny_pure ?_))
  refine ⟨plainId_quiet F.excBase_ValueError.init.plain _, codeAny_builtin F.excBase_ValueError.initEntry ?_⟩
  refine exc_init_tree (cls := .ref C) (t0 := t0) (dv := none) (c2 := .none) (c3 := .none) (b4 := .bool false) hx₃ (by show 1 ≤ sizeLine; rw [sizeLine_eq]; omega) (fun h₄ k₄ e₄ t₄ => ?_)
  generalize h₃.objs.size = t1 at e₄ t₄
  have X₄ : K.In h₄ := fun a o e => k₄ a o (fun z => by rw [z, hnx] at e; cases e) (X₃ a o e)
  have k0 : ∀ b o, b ≠ x → hp.get? b = some o → h₄.get? b = some o := fun b o hb e => k₄ b o hb (k₃ b o (k₂ b o (hk₁ b o e)))
  have hxL : hp.objs.size ≠ x := Nat.ne_of_gt (Heap.lt_size hx)
  have hns₄ : h₄.Ns hp.objs.size (fun y => ([("self", .ref x), ("value", v)] : List (Str × Value)).reverse.lookup y) := by
    obtain ⟨oL, es, ep, hL, r⟩ := hns₃
    exact ⟨oL, es, ep, k₄ _ _ hxL hL, r⟩
  -- self.value = value
  show _root_.PySem.wpAt _ _ _ (execs (_ :: _) _) _ _ _
  refine wpAt_of_wpAny (wpAny_execs_cons (plainObj_wpAny_Assign_Attribute ?_))
  refine ldE hns₄ hval (ldE hns₄ hself ?_ rfl (by kernel_rfl)) rfl (by kernel_rfl)
  refine set_plain X₄ (ox := { cls := .ref C, data := .fields #[.ref t1, .none, .none, .none, .bool false, .none] }) (od := none) ⟨e₄, rfl, rfl, trivial⟩ T.ox.sa ?_
  refine exc_osa X₄ e₄ hcl (show refsVE (.ref C :: bm) = true from hbm) rfl T.noN (fun h₅ tk₅ dx k₅ dn dne hx₅ hn₅ => ?_)
  show wpAny _ _ (execs _ _) _ _ _
  have z4 : hp.objs.size < h₄.objs.size := by
    obtain ⟨oL, _, _, hL, _⟩ := hns₄
    exact Heap.lt_size hL
  exact wpAny_execs_nil (hq h₅ tk₅ dx t1 ⟨fun b o hb e => k₅ b o hb (k0 b o hb e), hx₅, Nat.le_of_lt (Nat.lt_of_lt_of_le z4 dn), dne, hn₅⟩)

/-- a made BadValue -/
structure OwnMade (h h' : Heap) (e C d : Addr) (v : Value) : Prop where
  keep : ∀ b o, h.get? b = some o → h'.get? b = some o
  new : h.objs.size ≤ e
  obj : ∃ oe vs, h'.get? e = some oe ∧ oe.cls = .ref C ∧ oe.dict = some d ∧ oe.data = .fields vs ∧ vs[1]? = some .none
  dbig : h.objs.size ≤ d
  dne : d ≠ e
  ns : h'.Ns1 d (fun y => if y = "value" then some v else none)
theorem bad_made (T : BadTxt prog K C fI) {v : Value} (X : K.In s.heap) (G : s.heap.Ns mainGlobals mg) (hsup : mg "super" = none) (B : s.heap.Ns builtinsNs mb) (hb : mb "super" = some (.type "super")) (hlim : s.heap.NoLimit) (hroom : A.depth + 1 < recursionLimit)
    (hq : ∀ h' tk e d, OwnMade s.heap h' e C d v → R (.ok (.ret (.ref e))) { s with heap := h', toks := tk }) :
    codeAny (model prog w) A (.call (.ref C) ⟨[v], []⟩) R s := by
  obtain ⟨nm, q, N, bs, bm, sn, sub, ab, col, dd, k0, k1, k2, k3, k5, hC, hbm⟩ := T.ox.cls
  obtain ⟨hp, g, dr, tk, os⟩ := s
  have k : ∀ b o, hp.get? b = some o → ((hp.push (kdv_tup [v])).push (excO C hp.objs.size)).get? b = some o := fun b o e => Heap.get?_push_of_some _ (Heap.get?_push_of_some _ e)
  have hget : ((hp.push (kdv_tup [v])).push (excO C hp.objs.size)).get? (hp.objs.size + 1) = some (excO C hp.objs.size) := by heap_get
  have hnx : K.lookup (hp.objs.size + 1) = none := by
    cases e : K.lookup (hp.objs.size + 1) with
    | none => rfl
    | some o =>
      have z : hp.get? (hp.objs.size + 1) = some o := X _ _ e
      exact absurd (Nat.lt_of_succ_lt (Heap.lt_size z)) (Nat.lt_irrefl _)
  refine call_own F.excBase_ValueError (fun X => refsVE_contains X bm hbm) (X _ _ hC) (looks_findIn X T.iC) (fun self => bind_fn X self T.tI) (by show 1 ≤ sizeLine; rw [sizeLine_eq]; omega) ?_
  refine bad_init (s := ⟨(hp.push (kdv_tup [v])).push (excO C hp.objs.size), g, dr, tk, os⟩) T (X.keeps k) (G.keeps k) hsup (B.keeps k) hb (hlim.keeps k) hget hnx ?_ fun h' tk' dx t1 ⟨k', hx, dn, dne, hns⟩ => ?_
  · show A.depth + 1 < recursionLimit
    exact hroom
  · have old : ∀ b o, hp.get? b = some o → h'.get? b = some o := fun b o e => k' b o (Nat.ne_of_lt (Nat.lt_succ_of_lt (Heap.lt_size e))) (k b o e)
    have z : hp.objs.size + 1 + 1 ≤ dx := by
      first
        | (simpa only [Heap.size_push] using dn)
        | exact dn
        | (have q := dn; rw [Heap.size_push, Heap.size_push] at q; exact q)
    exact ⟨rfl, hq h' tk' (hp.objs.size + 1) dx ⟨old, Nat.le_succ _, ⟨_, _, hx, rfl, rfl, rfl, rfl⟩, Nat.le_trans (Nat.le_trans (Nat.le_succ _) (Nat.le_succ _)) z, dne, hns⟩⟩
end
section
open L2
variable {X : Cx} {C fI : Addr}
theorem relO_val {v : V} {v' : Value} (r : L2.RelV v v') (f : Str) : RelO (List.lookup f [(("value" : Str), v)]) (if f = "value" then some v' else none) := by
  by_cases hw : f = "value"
  · subst hw
    rw [if_pos rfl]
    have q : List.lookup ("value" : Str) [(("value" : Str), v)] = some v := by simp [List.lookup]
    rw [q]
    exact r
  · rw [if_neg hw]
    have qw : (f == ("value" : Str)) = false := by simpa using hw
    have q2 : List.lookup f [(("value" : Str), v)] = none := by simp [List.lookup, qw]
    rw [q2]
    trivial
/-- BadValue(e) -/
def tMkBad (C : Addr) (ta : TA) : L2.St → Hp → XK → Prop := fun σ H Q => ta σ H fun vs H1 => ∃ v, vs = [v] ∧ ∀ d, H1 d = none → Q (.ref C) (some d) (upd H1 d (.xd [(("value" : Str), v)]))
theorem pmk_bad {a : Expr} {ta : TA} {p pos : Pos} {k : Nat} (T : BadTxt X.prog X.K C fI) (gC : X.mg "BadValue" = some (.ref C)) (gS : X.mg "super" = none) (hr : Room k X.A) (ha : PA X [a] ta) (hg : Gl X "BadValue" := by rfl)
    (he : starEach (a :: []) X.env = (false, eval a X.env) :: starEach [] X.env := by rfl) (hpl : (backTo pos (starEach [] X.env)).any (·.1) = false := by rfl) :
    PMk X (.Call (.Name "BadValue" p) [a] [] pos) (tMkBad C ta) := by
  intro pins s σ H Q I h
  refine wpAny_Call_Name_kw (ld_glob I hg gC ?_)
  refine PySem.W.callWith_K (h₀ := X.base) I.ok.mod.kin T.ox.kC (thn (ha.run pos pins s σ H _ I h) fun us s1 hh => ?_) he hpl
  obtain ⟨vs, H1, I1, r1, v, ev, q1⟩ := hh
  subst ev
  refine ⟨I1.kIn, ?_⟩
  cases r1 with
  | cons rv rn =>
    rename_i v' us'
    cases rn
    show wpAny _ _ (call (.ref C) [v']) _ _ _
    have hlim := I1.nolimit
    obtain ⟨mb, hb1, hb2⟩ := I1.mod.blt
    have G1 := I1.mod.glob.keeps I1.bk
    have B1 := hb1.keeps I1.bk
    have hbs := (hb2 "super" (by decide)).trans (show bootBuiltins "super" = some (.type "super") by decide +kernel)
    have X1 := I1.kIn
    obtain ⟨hp, g, dr, tk, os⟩ := s1
    refine wpAny_call (bad_made T X1 G1 gS B1 hbs hlim (by have := hr.dp; omega) fun h' tk' e d M => ?_)
    show MkP X pins σ Q (.ref e) ⟨h', g, dr, tk', os⟩
    obtain ⟨oe, fv, hoe, hc, hd, hdat, h1⟩ := M.obj
    have hns := M.ns
    obtain ⟨G', g1, g2⟩ := restrict h' fun b => decide (b ≠ e)
    have gk : ∀ b, b ≠ e → G'.get? b = h'.get? b := fun b hb => g1 b (decide_eq_true hb)
    have ge : G'.get? e = none := g2 e (by simp)
    have old : ∀ b o, hp.get? b = some o → G'.get? b = some o := fun b o q => (gk b (Nat.ne_of_lt (Nat.lt_of_lt_of_le (Heap.lt_size q) M.new))).trans (M.keep b o q)
    have ob : ObjOk X.prog X.w (upd H1 d (.xd [(("value" : Str), v)])) G' d (.xd [(("value" : Str), v)]) :=
      ⟨_, hns.at (fun o q => (gk d M.dne).trans q), fun f => relO_val rv f⟩
    have J : L2.Inv X pins σ (upd H1 d (.xd [(("value" : Str), v)])) ⟨G', g, dr, tk', os⟩ := I1.laid (t' := tk') old M.dbig ob
    refine ⟨e, oe, fv, ⟨G', g, dr, tk', os⟩, _, .ref C, some d, rfl, J, fun b o q => ?_, ge, hoe, ⟨hc, hd⟩, hdat, h1, ?_, rfl, I1.bare, raises_own T.ox.exC T.ox.tyC, q1 d (I1.hok.fresh M.dbig)⟩
    · by_cases hb : b = e
      · have q' : G'.get? b = some o := q
        rw [hb, ge] at q'; cases q'
      · exact (gk b hb).symm.trans q
    · rw [upd_ne (Ne.symm M.dne)]
      exact I1.hok.fresh M.new
/-- NotTold() -/
theorem pmk_own0 {x : Str} {p pos : Pos} {B newId initId : String} {bmB : List Value} (F : ExcBaseFacts B newId initId bmB) (q : PySem.W.excIn X.K C bmB newId = true) (gC : X.mg x = some (.ref C)) (kC : PySem.W.keepIn X.K (.ref C) = true) (r : Raises X (.ref C)) (hg : Gl X x)
    (hdb : (x == ("__debug__" : Str)) = false := by decide) : PMk X (.Call (.Name x p) [] [] pos) (fun _ H Q => Q (.ref C) none H) := by
  intro pins s σ H Q I h
  refine wpAny_Call_Name_kw (ld_glob I hg gC ?_ hdb)
  refine PySem.W.callWith_K0 I.kIn kC ?_
  show wpAny _ _ (call (.ref C) []) _ _ _
  obtain ⟨bm, N, nm, qn, bs, hdct, sn, sub, ab, col, dd, k0, k1, k2, k3, k5, mN, hC, hN, hni, T⟩ := exc_obj I.kIn q
  refine wpAny_call_exc_subT F T hC hN hni (fun h' e hm => ?_) (by show 0 ≤ sizeLine; omega)
  exact mk_of I hm r h (I.hok.gone hm.new)
end
end K21

set_option Elab.async false
set_option linter.all false
set_option maxRecDepth 100000
set_option maxHeartbeats 4000000
/-! The class of a caught error that has its dict; isinstance of it. -/
namespace K21
open PySem PySem.Spec PyProof.Rows
section
open PySem.W PySem.Calls
variable {prog : Program} {w : World} {A : Around} {E : Value → Shared → Prop} {s : Shared} {K : Frag} {x D : Addr} {ox : Obj} {od : Obj}
/-- what BaseException.__getattribute__(x, '__class__') answers -/
theorem bex_class (c : L2.ExcC K D) {tk : Tok} {Q : Value → Shared → Prop} (X : K.In s.heap) (I : InstAt s.heap x ox D (some od)) (h : Q (.ref D) s) : wpAny (model prog w) A (call (.builtin "BaseException.__getattribute__") [.ref x, .str "__class__" tk]) Q E s := by
  obtain ⟨cd, hc, _⟩ := any_some c.hd
  have hf : findObj K D (some od) "__class__" = some (.bind (.builtin "getset_descriptor.__get__") (.builtin "object.__class__")) := findObj_data (by rw [hc]; rfl) c.ha c.hn c.ht
  obtain ⟨hp, g, d, t, os⟩ := s
  have L0 := I.type (M := model prog w)
  have L3 := looks_find (M := model prog w) X I hf
  have sub : Looks (model prog w) hp (isInstance (.ref x) (.type "BaseException")) true := L0.andThen (looks_subIn X c.hs)
  refine wpAny_call (codeAny_call_builtin PySem.F.excAttr_ValueError.ga.plain PySem.F.entry_bexc_ga ?_)
  refine @check_slot (model prog w) _ _ ⟨hp, g, d, t, os⟩ "BaseException.__getattribute__" "BaseException" "__getattribute__" (.ref x) [.str "__class__" tk] [] _ (by decide +kernel) (by decide +kernel) sub (PySem.F.args_bexc_ga (.ref x) (.str "__class__" tk)) ?_
  unfold Builtin.«object.__getattribute__»
  refine wpAny_bind (wpAny_of_eq (a := ((Value.ref x : Value), [Value.str "__class__" tk])) (by first | rfl | (simp only [slotArgs]; rfl)) ?_)
  refine wpAny_bind (wpAny_pure (wpAny_bind (L0.at (wpAny_bind (L3.at ?_)))))
  show wpAny _ _ (holding [Value.builtin "object.__class__"] (call (.builtin "getset_descriptor.__get__") [.builtin "object.__class__", .ref x, .ref D]) >>= ret) _ _ _
  exact wpAny_bind (wpAny_holding (wpAny_call (class_get (s := ⟨hp, g, d, t, os⟩) (ox := ox) (od := some od) X I c.hm (wpAny_pure h))))
theorem exc_class (c : L2.ExcC K D) {Q : Option Value → Shared → Prop} (X : K.In s.heap) (I : InstAt s.heap x ox D (some od)) (h : Q (some (.ref D)) { s with toks := s.toks + 1 }) : wpAny (model prog w) A (getAttr? (.ref x) "__class__") Q E s := by
  obtain ⟨hp, g, d, t, os⟩ := s
  have L0 := I.type (M := model prog w)
  have L1 := looks_findIn (M := model prog w) X c.hg
  have L2 := looks_findIn (M := model prog w) X c.hk
  have ne : (Value.builtin "BaseException.__getattribute__" == Value.builtin "object.__getattribute__") = false := by decide +kernel
  unfold getAttr? getAttrBy? getAttrBy
  refine wpAny_bind (wpAny_mkText (wpAny_bind (wpAny_attempt (wpAny_holding (wpAny_bind (L0.at (wpAny_bind (L1.at ?_))))))))
  show wpAny _ _ (if (onTheHeap (Value.ref D) && Value.builtin "BaseException.__getattribute__" == Value.builtin "object.__getattribute__") = true then _ else _) _ _ _
  rw [show (onTheHeap (Value.ref D) && Value.builtin "BaseException.__getattribute__" == Value.builtin "object.__getattribute__") = false by rw [ne]; rfl, if_neg Bool.false_ne_true]
  unfold getAttrByItsOwn hookBefore
  refine wpAny_bind ?_
  rw [if_pos (show onTheHeap (Value.ref D) = true from rfl)]
  refine L2.at (wpAny_bind (wpAny_attempt (wpAny_holding ?_)))
  unfold callGetattribute
  rw [show (false && onTheHeap (Value.builtin "BaseException.__getattribute__")) = false from rfl, if_neg Bool.false_ne_true]
  unfold boundAndCalled
  rw [PySem.F.excAttr_ValueError.ga.bind (.ref x)]
  refine wpAny_bind (wpAny_pure (bex_class c (s := ⟨hp, g, d, t + 1, os⟩) X I ?_))
  show wpAny _ _ (handedOut (.ref D)) _ _ _
  rw [handedOut_of (v := .ref D) rfl]
  first
    | exact wpAny_pure (wpAny_pure h)
    | exact wpAny_pure h
    | exact wpAny_pure (wpAny_bind (wpAny_pure (wpAny_pure h)))
/-- what isinstance asks of such an error -/
theorem kit_exc (c : L2.ExcC K D) : KitX K (.ref x) (.ref D) (fun h => InstAt h x ox D (some od)) := by
  obtain ⟨cdD, hcD, _⟩ := any_some c.hd
  have at_ : ∀ h : Heap, K.In h → ∃ oD, h.get? D = some oD ∧ oD.data = .cls cdD := fun h X => by
    unfold clsIn at hcD
    split at hcD
    · rename_i o1 o2 o3 o4 ho
      cases hcD
      exact ⟨_, X _ _ ho, rfl⟩
    · cases hcD
  refine ⟨fun _ _ _ I => I.type, fun M h X _ => ?_, fun h tp dd its n sl X htp => ?_, fun X I k => exc_class c X I k⟩
  · obtain ⟨oD, h1, h2⟩ := at_ h X
    intro A' Q' E' s' k q
    unfold isType loadHead
    refine wpAny_bind (wpAny_loadPart (k _ _ h1) ?_)
    rw [h2]
    exact wpAny_pure q
  · refine Bool.eq_false_iff.mpr fun q => ?_
    obtain rfl : D = tp := Value.ref.inj (beq_iff_eq.mp q)
    obtain ⟨oD, h1, h2⟩ := at_ h X
    rw [h1] at htp
    cases htp
    cases h2
end
section
open L2
/-- isinstance(e, c), e the error of the suite, with its dict -/
theorem call_isD {X : Cx} {a D dx : Addr} {oe : Obj} {pn : List (Addr × Obj)} {φ : List (Str × V)} (C : ExcC X.K D) (hz : Zc (.ref D) (some dx) oe) (hf : ∃ vs, oe.data = .fields vs) :
    CallR (X.suite a ((a, oe) :: pn)) (.builtin "isinstance") (fun xs H Q => rIsE X.K D a xs H Q ∧ ∃ φ, H dx = some (.xd φ)) := by
  intro pins s σ H xs us Q I r h
  obtain ⟨⟨c, cv, b, rfl, hcv, e, q⟩, φ, hd⟩ := h
  cases r with
  | cons rx rr =>
    cases rr with
    | cons rt rr =>
      cases rr
      cases rx
      have ec := hcv _ rt
      subst ec
      obtain ⟨hget, _⟩ := I.pin (a, oe) (List.mem_append.mpr (.inl List.mem_cons_self))
      obtain ⟨vs, hv⟩ := hf
      have hx : ObjOk X.prog X.w H s.heap dx (.xd φ) := I.hok dx _ hd
      obtain ⟨mA, ⟨od, _, _, ho, _⟩, _⟩ := hx
      have J : PySem.W.InstAt s.heap a oe D (some od) := by
        obtain ⟨oc, odd, oda, osl⟩ := oe
        obtain ⟨h1, h2⟩ := hz
        dsimp only at h1 h2 hv
        subst h1 h2 hv
        exact ⟨hget, rfl, rfl, ho⟩
      exact PySem.W.kia_one (kit_exc C) I.kIn J e (fun z => nomatch z) fun tk => ⟨.bl b, H, I.kept (t' := tk) fun _ _ z => z, rfl, q⟩
end
end K21

set_option Elab.async false
set_option linter.all false
set_option maxRecDepth 100000
set_option maxHeartbeats 4000000
set_option exponentiation.threshold 2000
/-! The walk: what raises. -/
namespace K21
open PySem PySem.Spec PyProof.Rows L2
local macro_rules | `(tactic| walk_at "pos") => `(tactic| first | assumption | ((with_reducible show (0 : Int) < _); first | assumption | omega | decide) | decide)
local macro_rules | `(tactic| walk_at "b") => `(tactic| (repeat' (first | ((with_reducible show Bd _ _); first | assumption | exact Bd.lit64 (by decide) | (refine' Bd.add ?_ ?_) | (refine' Bd.sub ?_ ?_) | (refine' Bd.mul ?_ ?_) | (refine' Bd.neg ?_) | (refine' Bd.div ?_ ?_) | (refine' Bd.mod ?_ ?_)) | ((with_reducible show (_ : Int) < _); first | assumption | omega))))
local macro_rules | `(tactic| walk_at "mul") => `(tactic| exact Bd.mulW (by walk_at "b") (by walk_at "b") (by decide))
local macro_rules | `(tactic| walk_at "div") => `(tactic| exact Bd.divW (by walk_at "pos") (by walk_at "b") (by decide))
abbrev bC (K : PySem.W.Frag) : Addr := He.ga K "BadValue"
abbrev nC (K : PySem.W.Frag) : Addr := He.ga K "NotTold"
abbrev sC (K : PySem.W.Frag) : Addr := He.ga K "SumError"
/-- what the text is asked beyond the facts of the head -/
class ExX (P : Program) (K : PySem.W.Frag) : Prop where
  w : ExW K
  bad : BadTxt P K (bC K) (He.ma K (bC K) "__init__")
  xf : XfC K (bC K)
  ecB : ExcC K (bC K)
  ecN : ExcC K (nC K)
  isB : PySem.W.kitOne K (.ref (bC K)) (.ref (sC K)) = some true
  isN : PySem.W.kitOne K (.ref (nC K)) (.ref (sC K)) = some true
  exN : PySem.W.exmOne K (.ref (nC K)) (.ref (nC K)) = some true
  exB : PySem.W.exmOne K (.ref (bC K)) (.ref (bC K)) = some true
  own : PySem.W.excIn K (nC K) He.veBase "ValueError.__new__" = true ∧ PySem.W.keepIn K (.ref (nC K)) = true ∧ PySem.W.subIn K (.ref (nC K)) (.type "BaseException") = some true ∧ PySem.W.typeIn K (.ref (nC K)) = some (.type "type")
theorem pss_void {X : Cx} {b : List Stmt} : PSs X b (fun _ _ _ => False) := ⟨fun _ _ _ _ _ _ h => h.elim⟩
/-- o.m(e, ..), the method may raise -/
def tMethS (C : Addr) (m : Str) (sp : Sp) (E : L2.St → XK) (ta : TE) (t : TA) : TE := fun σ H Q => ta σ H fun x H1 => ∃ a dx fs, x = .ref a ∧ H1 a = some (.ins C dx fs) ∧ fs.lookup m = none ∧ t σ H1 fun vs H2 => sp (x :: vs) H2 Q (E σ)
theorem pe_methS {X : Cx} {CX : CXT} {k : Nat} {f C : Addr} {fd : FuncData} {ps : List Str} {sp : Sp} {E : L2.St → XK} {m : Str} {pos apos : Pos} {e o : Expr} {es : List Expr} {ta : TE} {t : TA} {pl : Sem Bool} (he : PE X o ta) (c : Cls X.K C) (hm : Meth X.K C m f) (F : FnOk X.prog X.w X.K X.mg X.base CX k f fd ps sp) (hr : Room k X.A) (hb : Binds X.K fd ps [])
    (hx : ∀ σ, PassesAt CX X σ (E σ)) (ha : PA X (e :: es) t)
    (hst : starEach (e :: es) X.env = (false, eval e X.env) :: starEach es X.env := by rfl) (hpl : (backTo pos (starEach es X.env)).any (·.1) = false := by rfl)
    (ht : eval (.Call (.Attribute o m apos) (e :: es) [] pos) X.env = (do
      let ov ← eval o X.env
      standAt apos.atName
      let (f, first) ← holding [ov] (getMethod ov m pl)
      callWith pos f first (backTo pos (starEach (e :: es) X.env)) (backToKw pos (keywordEach [] X.env))) := by rfl) :
    PE X (.Call (.Attribute o m apos) (e :: es) [] pos) (tMethS C m sp E ta t) := by
  refine ⟨fun pins s σ H Q I h => ?_⟩
  refine PySem.W.methodCall_KW (pl := pl) (thn (he.run pins s σ H _ I h) fun u s1 ⟨x, H1, I1, rx, a, dx, fs, ex, ea, l, q⟩ => ?_) ht
  subst ex
  obtain rfl : u = Value.ref a := rx
  refine getmeth_ok I1 ea c hm l (PySem.W.callWith_K (first := [.ref a]) (h₀ := X.base) I.ok.mod.kin hm.kp (thn (ha.run pos pins s1 σ H1 _ I1 q) fun us s2 ⟨vs, H2, I2, r, q2⟩ => ⟨I2.kIn, ?_⟩) hst hpl)
  exact run_fnS (us := .ref a :: us) (vs := .ref a :: vs) F hr hb (hx σ) I2 (.cons (show L2.RelV (.ref a) (.ref a) from rfl) r) q2
section
variable {P : Program} {w : World} {K : PySem.W.Frag} {mg : Str → Option Value} {base : Heap} [XX : ExX P K]
/-- a method that may raise -/
def MetX (P : Program) (w : World) (K : PySem.W.Frag) (mg : Str → Option Value) (base : Heap) (k : Nat) (C : Addr) (m : Str) (sp : Sp) : Prop := ∃ (f : Addr) (fd : FuncData) (ps : List Str), Cls K C ∧ Meth K C m f ∧ FnOk P w K mg base (L2.CX P w) k f fd ps sp ∧ Binds K fd ps []
theorem pe_mx {X : Cx} {j k : Nat} {C : Addr} {m : Str} {sp : Sp} {W : WX} {pos apos : Pos} {e o : Expr} {es : List Expr} {ta : TE} {t : TA} {pl : Sem Bool} (c : MetX X.prog X.w X.K X.mg X.base k C m sp) (hr : Room j X.A) (hk : k ≤ j) (tk : Takes X W) (he : PE X o ta) (ha : PA X (e :: es) t)
    (hst : starEach (e :: es) X.env = (false, eval e X.env) :: starEach es X.env := by rfl) (hpl : (backTo pos (starEach es X.env)).any (·.1) = false := by rfl)
    (ht : eval (.Call (.Attribute o m apos) (e :: es) [] pos) X.env = (do
      let ov ← eval o X.env
      standAt apos.atName
      let (f, first) ← holding [ov] (getMethod ov m pl)
      callWith pos f first (backTo pos (starEach (e :: es) X.env)) (backToKw pos (keywordEach [] X.env))) := by rfl) :
    PE X (.Call (.Attribute o m apos) (e :: es) [] pos) (tMethS C m sp (WE W) ta t) := by
  obtain ⟨f, fd, ps, hc, hm, F, b⟩ := c
  exact pe_methS (pl := pl) he hc hm F (hr.mono hk) b (fun σ => passAt tk σ) ha hst hpl ht
/-- BadValue(n) flies, its dict at d -/
def Flies (K : PySem.W.Frag) (n : Int) (H : Hp) (E : XK) : Prop := ∀ d, H d = none → E (.ref (bC K)) (some d) (upd H d (.xd [(("value" : Str), .int n)]))
def spx_need_below (K : PySem.W.Frag) : Sp := fun vs H _ E => ∃ n b : Int, vs = [.int n, .int b] ∧ (n < 0 ∨ b ≤ n) ∧ Flies K n H E
theorem fnx_need_below (T : Txt K mg) : ∃ (f : Addr) (fd : FuncData), FnOk P w K mg base (L2.CX P w) 4 f fd ["value", "bound"] (spx_need_below K) ∧ mg "need_below" = some (.ref f) ∧ PySem.W.keepIn K (.ref f) = true ∧ Binds K fd ["value", "bound"] [] := by
  obtain ⟨fd, F⟩ := T.D_need_below
  refine ⟨_, fd, F.ok sc_need_below (fun vs H Q E h => ?_) (fun cdv A outer s H vs Q E hr h => ?_), T.g_need_below, F.kp, F.bindsN (fun _ _ _ _ _ _ us hl => match us, hl with | [_, _], _ => rfl)⟩
  · obtain ⟨n, b, rfl, _⟩ := h
    rfl
  · obtain ⟨n, b, rfl, hn, k⟩ := h
    refine ⟨_, pss_one (ps_if (PW.pt (pw_or (pt_not (pt_val (C8.pe_c (cal_is_whole T) hr (by decide) rfl (pa_cons (pv 0) pa_nil)))) (pw_or1 (pt_cmpR op_ge (pv 0) (pv 1) (nomark _))))) (pss_one (ps_raise rfl (takes_of rfl rfl rfl rfl) (pmk_bad XX.bad T.g_BadValue T.f_super hr (by exact (pa_cons (pv 0) pa_nil))))) pss_nil), ?_⟩
    refine ⟨_, rfl, n, rfl, _, rfl, ?_⟩
    by_cases h0 : 0 ≤ n
    · rw [decide_eq_true h0]
      refine iteF ⟨_, rfl, _, rfl, _, _, rfl, rfl, _, rfl, ?_⟩
      rw [decide_eq_true (show b ≤ n by omega)]
      exact iteT ⟨_, rfl, _, rfl, k⟩
    · rw [decide_eq_false h0]
      exact iteT ⟨_, rfl, _, rfl, k⟩
/-- a method whose first line refuses the house -/
def spx_house (K : PySem.W.Frag) : Sp := fun vs H _ E => ∃ (p : Addr) (c : Crs) (x : Int), vs = [.ref p, .int x] ∧ CrsAt K H p c ∧ (x < 0 ∨ c.h ≤ x) ∧ Flies K x H E
theorem spx_len {K : PySem.W.Frag} {vs : List V} {H : Hp} {Q : VK} {E : XK} (h : spx_house K vs H Q E) : vs.length = 2 := by
  obtain ⟨p, c, x, rfl, _⟩ := h
  rfl
theorem metx_gaps (T : Txt K mg) : MetX P w K mg base 5 (He.ga K "Course") "gaps" (spx_house K) := by
  obtain ⟨fd, F⟩ := T.D_C_gaps
  obtain ⟨fb, fdb, FB, gB, kB, bB⟩ := fnx_need_below (P := P) (w := w) (base := base) T
  refine ⟨_, fd, ["self", "house"], T.c_Course, T.m_C_gaps, F.ok sc_C_gaps (fun vs H Q E h => spx_len h) (fun cdv A outer s H vs Q E hr h => ?_), F.bindsN (fun _ _ _ _ _ _ us hl => match us, hl with | [_, _], _ => rfl)⟩
  obtain ⟨p, c, x, rfl, ⟨dx, hp⟩, hx, k⟩ := h
  refine ⟨_, pss_cons (ps_expr (pe_callS FB hr rfl gB kB bB (fun σ => passAt (takes_of rfl rfl rfl rfl) σ) (by exact (pa_cons (pv 1) (pa_cons (pe_fld (pv 0) rfl) pa_nil))))) pss_void, ?_⟩
  exact ⟨_, rfl, _, rfl, _, _, _, _, _, rfl, hp, T.c_Course, T.n_Course_houses, F_Course_houses _, x, c.h, rfl, hx, k⟩
theorem metx_window (T : Txt K mg) : MetX P w K mg base 5 (He.ga K "Course") "window" (spx_house K) := by
  obtain ⟨fd, F⟩ := T.D_C_window
  obtain ⟨fb, fdb, FB, gB, kB, bB⟩ := fnx_need_below (P := P) (w := w) (base := base) T
  refine ⟨_, fd, ["self", "house"], T.c_Course, T.m_C_window, F.ok sc_C_window (fun vs H Q E h => spx_len h) (fun cdv A outer s H vs Q E hr h => ?_), F.bindsN (fun _ _ _ _ _ _ us hl => match us, hl with | [_, _], _ => rfl)⟩
  obtain ⟨p, c, x, rfl, ⟨dx, hp⟩, hx, k⟩ := h
  refine ⟨_, pss_cons (ps_expr (pe_callS FB hr rfl gB kB bB (fun σ => passAt (takes_of rfl rfl rfl rfl) σ) (by exact (pa_cons (pv 1) (pa_cons (pe_fld (pv 0) rfl) pa_nil))))) pss_void, ?_⟩
  exact ⟨_, rfl, _, rfl, _, _, _, _, _, rfl, hp, T.c_Course, T.n_Course_houses, F_Course_houses _, x, c.h, rfl, hx, k⟩
/-- a window that cannot be told -/
def spx_window (K : PySem.W.Frag) : Sp := fun vs H _ E => ∃ (p : Addr) (c : Crs) (x : Int), vs = [.ref p, .int x] ∧ CrsAt K H p c ∧ c.Sm ∧ 0 ≤ x ∧ x < c.h ∧ c.e ≠ 0 ∧ (c.e - 1) % c.m ≠ 0 ∧ (c.e + 1) % c.m ≠ 0 ∧ E (.ref (nC K)) none H
theorem metx_windowN (T : Txt K mg) : MetX P w K mg base 6 (He.ga K "Course") "window" (spx_window K) := by
  obtain ⟨fd, F⟩ := T.D_C_window
  obtain ⟨o1, o2, o3, o4⟩ := XX.own
  refine ⟨_, fd, ["self", "house"], T.c_Course, T.m_C_window, F.ok sc_C_window (fun vs H Q E h => ?_) (fun cdv A outer s H vs Q E hr h => ?_), F.bindsN (fun _ _ _ _ _ _ us hl => match us, hl with | [_, _], _ => rfl)⟩
  · obtain ⟨p, c, x, rfl, _⟩ := h
    rfl
  obtain ⟨p, c, x, rfl, ⟨dx, hp⟩, sm, x0, xh, e0, s1, s2, k⟩ := h
  refine ⟨_, pss_cons (ps_expr (C8.pe_c (cal_need_below T) hr (by decide) rfl (pa_cons (pv 1) (pa_cons (pe_fld (pv 0) rfl) pa_nil)))) (pss_cons (ps_if (pt_val (C8.pe_mt0 (met_C_is_resting T) hr (by decide) (pv 0))) (pss_one (ps_ret (C8.pe_mk (mak_Window T) hr (by decide) rfl (pa_cons pe_int (pa_cons pe_int (pa_cons (C8.pe_mt (met_C_visits T) hr (by decide) (pv 0) (pa_cons (pv 1) pa_nil)) pa_nil))))))
      pss_nil) (pss_cons (ps_if (pt_not (pt_val (C8.pe_mt0 (met_C_is_slow T) hr (by decide) (pv 0)))) (pss_one (ps_raise rfl (takes_of rfl rfl rfl rfl) (pmk_own0 PySem.F.excBase_ValueError o1 T.g_NotTold o2 (raises_own o3 o4) rfl))) pss_nil) pss_void)), ?_⟩
  refine ⟨_, rfl, _, rfl, _, _, _, _, _, rfl, hp, T.c_Course, T.n_Course_houses, F_Course_houses _, x, _, rfl, x0, xh, ?_⟩
  refine ⟨_, rfl, _, _, _, rfl, hp, rfl, _, c, rfl, ⟨_, hp⟩, sm, _, rfl, ?_⟩
  rw [decide_eq_false e0]
  refine iteF ?_
  refine ⟨_, rfl, _, _, _, rfl, hp, rfl, _, c, rfl, ⟨_, hp⟩, sm, _, rfl, ?_⟩
  rw [decide_eq_false s1, decide_eq_false s2]
  exact iteT k
end
end K21

set_option Elab.async false
set_option linter.all false
set_option maxRecDepth 100000
set_option maxHeartbeats 4000000
set_option exponentiation.threshold 2000
/-! The walk: what is refused. -/
namespace K21
open PySem PySem.Spec PyProof.Rows L2 LamX
local macro_rules | `(tactic| walk_at "pos") => `(tactic| first | assumption | ((with_reducible show (0 : Int) < _); first | assumption | omega | decide) | decide)
local macro_rules | `(tactic| walk_at "b") => `(tactic| (repeat' (first | ((with_reducible show Bd _ _); first | assumption | exact Bd.lit64 (by decide) | (refine' Bd.add ?_ ?_) | (refine' Bd.sub ?_ ?_) | (refine' Bd.mul ?_ ?_) | (refine' Bd.neg ?_) | (refine' Bd.div ?_ ?_) | (refine' Bd.mod ?_ ?_)) | ((with_reducible show (_ : Int) < _); first | assumption | omega))))
local macro_rules | `(tactic| walk_at "mul") => `(tactic| exact Bd.mulW (by walk_at "b") (by walk_at "b") (by decide))
local macro_rules | `(tactic| walk_at "div") => `(tactic| exact Bd.divW (by walk_at "pos") (by walk_at "b") (by decide))
/-- what _law_refused makes of a lambda that raises a BadValue -/
def TRef (K : PySem.W.Frag) : (XK → Hp → VK → Prop) → Hp → VK → Prop := fun tl H Q =>
  tl (fun cls d H' => ∃ (n : Int) (dd : Addr), cls = .ref (bC K) ∧ d = some dd ∧ H' dd = some (.xd [(("value" : Str), .int n)]) ∧ n.natAbs.log2 < 1920 ∧ Q (.str (toString n)) H') H (fun _ H' => ∃ v, (some (some (V.str "not refused")) : Option (Option V)) = some (some v) ∧ Q v H')
theorem sc_L_refused : FnScope ["_law_call", "_law_found", "e"] ["_law_call"] (C8.fnScope s_L_refused) := C8.fnScope_by (by decide +kernel)
abbrev rfX (X : Cx) (g : Addr) (cdg : Value) (A : Around) (outer : List Env) (s : Shared) (H : Hp) : Cx := cxOf C8.CX0 X.prog X.w X.K X.mg X.base ["_law_call", "_law_found", "e"] "_law_refused" (C8.fnScope s_L_refused) g cdg A outer s H C8.E0
/-- the suite -/
def tsRef (K : PySem.W.Frag) (a : Addr) (cls : Value) (d : Option Addr) : TS := fun D σ H => cls = .ref (bC K) ∧ ∃ (dx : Addr) (n : Int), d = some dx ∧ H dx = some (.xd [(("value" : Str), .int n)]) ∧ n.natAbs.log2 < 1920 ∧ (σ.length = 3 → σ[2]? = some (some (.ref a)) ∧ D.nx (σ.set 1 (some (.str (toString n)))) H)
theorem suite_ref {X : Cx} (T : Txt X.K X.mg) [XX : ExX X.prog X.K] {g a : Addr} {cdg : Value} {A : Around} {outer : List Env} {s : Shared} {H : Hp} {oe : Obj} {cls : Value} {d : Option Addr} {pn : List (Addr × Obj)} (hz : Zc cls d oe) (hf : ∃ vs, oe.data = .fields vs) :
    PSs ((rfX X g cdg A outer s H).nox.suite a ((a, oe) :: pn)) (match C8.fnBody s_L_refused with | [_, .Try _ [.ExceptHandler _ _ b _] _ _ _, _] => b | _ => []) (tsRef X.K a cls d) := by
  refine ⟨fun pins s1 σ H1 D I h => ?_⟩
  obtain ⟨rfl, dx, n, rfl, hd, hn, q⟩ := h
  obtain ⟨h2, q⟩ := q I.len
  refine (pss_one (X := (rfX X g cdg A outer s H).nox.suite a ((a, oe) :: pn)) (ps_set (i := 1) sc_L_refused.nd rfl (Or.inl rfl) (pe_ifExp (pt_val (pe_callB (call_isD (X := (rfX X g cdg A outer s H).nox) (φ := []) XX.ecB hz hf) (by rfl) T.f_isinstance b_isinstance (by exact (pa_cons (pv 2) (pa_cons (pe_glob (v := .ref (sC X.K)) (by rfl) T.g_SumError rfl) pa_nil)))))
    (pe_callB SkE.call_repr_int (by rfl) T.f_repr b_repr (by exact (pa_cons (pe_xf XX.xf XX.bad.noN hz hf (pv 2)) pa_nil))) pe_str))).run pins s1 σ H1 D I ?_
  refine ⟨_, h2, ⟨⟨_, _, true, rfl, fun u hu => hu, XX.isB, true, rfl, iteT ?_⟩, _, hd⟩⟩
  exact ⟨_, h2, rfl, rfl, dx, _, _, rfl, hd, rfl, n, rfl, hn, q⟩
theorem refused_gives {X : Cx} (T : Txt X.K X.mg) [XX : ExX X.prog X.K] {g : Addr} {cdg : Value} {q : Str} : GivesTo X ["_law_call", "_law_found", "e"] "_law_refused" (C8.fnScope s_L_refused) g cdg (C8.fnBody s_L_refused) "_law_call" q (TRef X.K) := by
  intro f c' s H Q tl act hc h
  refine ⟨_, pss_cons (X := (rfX X g cdg X.A X.stack s H).nox) (ps_set (i := 1) sc_L_refused.nd rfl (Or.inl rfl) pe_str)
    (pss_cons (ps_try_as (X := (rfX X g cdg X.A X.stack s H).nox) (i := 2) (c := .ref (bC X.K))
      (tb := fun W D σ H => ∃ Ech : XK, (∀ cls d σ' H', Ech cls d H' → W cls d σ' H') ∧ σ[0]? = some (some (.ref f)) ∧ H c' = some (CodeO c' q) ∧ tl Ech H fun _ H' => D.nx σ H') (ts := tsRef X.K)
      rfl rfl sc_L_refused.nd rfl rfl ⟨rfl, by decide, .inl T.g_BadValue⟩ takes0 (fun W pn xe tk _ => ?_) (fun a oe cls d pn hz hf => suite_ref T hz hf)) (pss_one (ps_ret (pv 1)))), ?_⟩
  · refine ⟨fun pins s' σ H' D I h' => ?_⟩
    obtain ⟨Ech, hW, h1, h2, h3⟩ := h'
    exact (pss_one (ps_expr (act W pn xe Ech _ _ tk hW))).run pins s' σ H' D I ⟨h1, h2, h3⟩
  · refine ⟨fun cls d H' => ∃ (n : Int) (dd : Addr), cls = .ref (bC X.K) ∧ d = some dd ∧ H' dd = some (.xd [(("value" : Str), .int n)]) ∧ n.natAbs.log2 < 1920 ∧ Q (.str (toString n)) H', fun cls d σ' H' hE => ?_, rfl, hc, ?_⟩
    · obtain ⟨n, dd, rfl, rfl, hd, hn, q⟩ := hE
      refine ⟨true, XX.exB, fun _ a _ => ⟨rfl, dd, n, rfl, hd, hn, fun hl => ?_⟩, fun z => by cases z⟩
      rw [List.length_set] at hl
      match σ', hl with
      | [v0, v1, v2], _ => exact ⟨rfl, _, rfl, q⟩
    · exact h
end K21

set_option Elab.async false
set_option linter.all false
set_option maxRecDepth 100000
set_option maxHeartbeats 4000000
set_option exponentiation.threshold 2000
/-! The walk: resting windows, what is not told, what is refused. -/
namespace K21
open PySem PySem.Spec PyProof.Rows L2 LamX
local macro_rules | `(tactic| walk_at "pos") => `(tactic| first | assumption | ((with_reducible show (0 : Int) < _); first | assumption | omega | decide) | decide)
local macro_rules | `(tactic| walk_at "b") => `(tactic| (repeat' (first | ((with_reducible show Bd _ _); first | assumption | exact Bd.lit64 (by decide) | (refine' Bd.add ?_ ?_) | (refine' Bd.sub ?_ ?_) | (refine' Bd.mul ?_ ?_) | (refine' Bd.neg ?_) | (refine' Bd.div ?_ ?_) | (refine' Bd.mod ?_ ?_)) | ((with_reducible show (_ : Int) < _); first | assumption | omega))))
local macro_rules | `(tactic| walk_at "mul") => `(tactic| exact Bd.mulW (by walk_at "b") (by walk_at "b") (by decide))
local macro_rules | `(tactic| walk_at "div") => `(tactic| exact Bd.divW (by walk_at "pos") (by walk_at "b") (by decide))
/-! ### the plain law -/
/-- a resting course of a run of 1: its window -/
theorem rest_win {h S e x : Int} (h3 : 3 ≤ h) (x0 : 0 ≤ x) (xh : x < h) (ez : e % h = 0) : (nrm h S e 1).e = 0 ∧ (nrm h S e 1).each x = if S % h = x then 1 else 0 := by
  have hq : (nrm h S e 1).q = 1 := if_pos (by omega)
  have hm : (nrm h S e 1).m = h := by rw [nrm_m, if_pos (by omega)]; omega
  have hS : (nrm h S e 1).S = S % h := by
    unfold nrm
    simp only [ite_self, Int.one_mul]
    rw [if_neg (fun z => by omega)]
  have he : (nrm h S e 1).e = 0 := by
    unfold nrm
    simp only [ite_self, Int.one_mul]
    rw [if_neg (fun z => by omega)]
    exact ez
  have hd : (nrm h S e 1).d = h := by
    unfold Crs.d
    rw [he, hm]
    simp
    omega
  refine ⟨he, ?_⟩
  unfold Crs.each Crs.r Crs.off
  rw [hd, hq, hS]
  have s0 := Int.emod_nonneg S (show h ≠ 0 by omega)
  have s1 := Int.emod_lt_of_pos S (show 0 < h by omega)
  generalize S % h = s at s0 s1 ⊢
  by_cases z : s = x
  · subst z
    rw [if_pos rfl, show s - s * 1 = 0 by omega, Int.zero_emod]
    show (1 - 1 - 0) / h + 1 = 1
    rw [show (1 - 1 - 0 : Int) = 0 by omega, Int.zero_ediv]
    rfl
  · rw [if_neg z]
    have r0 : 0 < (s - x * 1) % h ∧ (s - x * 1) % h < h := by
      refine ⟨?_, Int.emod_lt_of_pos _ (by omega)⟩
      have := Int.emod_nonneg (s - x * 1) (show h ≠ 0 by omega)
      rcases Int.lt_or_le 0 ((s - x * 1) % h) with y | y
      · exact y
      · exfalso
        have y0 : (s - x * 1) % h = 0 := by omega
        have := Int.emod_add_mul_ediv (s - x * 1) h
        rw [y0] at this
        rcases Int.lt_trichotomy ((s - x * 1) / h) 0 with w | w | w
        · have := Int.mul_le_mul_of_nonneg_left (show (s - x * 1) / h ≤ -1 by omega) (show 0 ≤ h by omega)
          omega
        · rw [w] at this
          omega
        · have := Int.mul_le_mul_of_nonneg_left (show 1 ≤ (s - x * 1) / h by omega) (show 0 ≤ h by omega)
          omega
    generalize (s - x * 1) % h = r at r0 ⊢
    have e1 : (1 - 1 - r) / h = -1 := by
      have n0 : (1 - 1 - r) / h < 0 := Int.ediv_neg_of_neg_of_pos (by omega) (by omega)
      have n1 : -1 ≤ (1 - 1 - r) / h := (Int.le_ediv_iff_mul_le (by omega)).mpr (by omega)
      omega
    rw [e1]
    rfl
theorem not_slow {h S q : Int} (h3 : 3 ≤ h) (q3 : 3 ≤ q) : (nrm h S 2 q).e ≠ 0 ∧ ((nrm h S 2 q).e - 1) % (nrm h S 2 q).m ≠ 0 ∧ ((nrm h S 2 q).e + 1) % (nrm h S 2 q).m ≠ 0 := by
  have hm : (nrm h S 2 q).m = q * h := by rw [nrm_m, if_pos (by omega)]
  have m9 : 9 ≤ q * h := by
    have := Int.mul_le_mul q3 h3 (by decide) (by omega)
    omega
  have he : (nrm h S 2 q).e = 2 := by
    unfold nrm
    simp only [if_pos (show 1 < h by omega)]
    rw [if_neg (fun z => by omega)]
    exact Int.emod_eq_of_lt (by decide) (by omega)
  rw [he, hm]
  refine ⟨by decide, ?_, ?_⟩
  · rw [Int.emod_eq_of_lt (by decide) (by omega)]
    decide
  · rw [Int.emod_eq_of_lt (by decide) (by omega)]
    decide
theorem odd_cop {s : Int} (h : 0 ≤ s) : Nat.gcd (3 + 2 * s).natAbs (2 : Int).natAbs = 1 := by
  obtain ⟨n, rfl⟩ := Int.eq_ofNat_of_zero_le h
  rw [show (3 + 2 * (n : Int)).natAbs = 3 + 2 * n by omega]
  show Nat.gcd (3 + 2 * n) 2 = 1
  rw [Nat.gcd_comm, Nat.gcd_rec, show (3 + 2 * n) % 2 = 1 by omega]
  decide
/-! ### the suite of the try -/
theorem sc_L_others_right : FnScope ["_law_tape", "_law_houses", "_law_start", "_law_house_here", "_law_made", "_law_run", "_law_found", "e"] ["_law_tape"] (C8.fnScope s_L_others_right) := C8.fnScope_by (by decide +kernel)
abbrev oN : List Str := ["_law_tape", "_law_houses", "_law_start", "_law_house_here", "_law_made", "_law_run", "_law_found", "e"]
def tsNot (K : PySem.W.Frag) (a : Addr) (cls : Value) (d : Option Addr) : TS := fun D σ H => cls = .ref (nC K) ∧ d = none ∧ σ[7]? = some (some (.ref a)) ∧ D.nx (σ.set 6 (some (.bl true))) H
section
variable {P : Program} {w : World} {K : PySem.W.Frag} {mg : Str → Option Value} {base : Heap} [XX : ExX P K]
abbrev oX (P : Program) (w : World) (K : PySem.W.Frag) (mg : Str → Option Value) (base : Heap) (f : Addr) (cdv : Value) (A : Around) (outer : List Env) (s : Shared) (H : Hp) (E : XK) : Cx := (cxOf C8.CX0 P w K mg base oN "_law_others_right" (C8.fnScope s_L_others_right) f cdv A outer s H E).nox
theorem suite_not (T : Txt K mg) {f a : Addr} {cdv : Value} {A : Around} {outer : List Env} {s : Shared} {H : Hp} {E : XK} {oe : Obj} {cls : Value} {d : Option Addr} {pn : List (Addr × Obj)} (hz : Zc cls d oe) (hf : ∃ vs, oe.data = .fields vs) :
    PSs ((oX P w K mg base f cdv A outer s H E).suite a ((a, oe) :: pn)) (match C8.fnBody s_L_others_right with | [_, _, _, _, .Try _ [.ExceptHandler _ _ b _] _ _ _, _] => b | _ => []) (tsNot K a cls d) := by
  refine ⟨fun pins s1 σ H1 D I h => ?_⟩
  obtain ⟨rfl, rfl, h2, q⟩ := h
  refine (pss_one (X := (oX P w K mg base f cdv A outer s H E).suite a ((a, oe) :: pn)) (ps_set (i := 6) sc_L_others_right.nd rfl (Or.inl rfl) (pe_callB (call_isE (X := oX P w K mg base f cdv A outer s H E) XX.ecN hz hf) (by rfl) T.f_isinstance b_isinstance (by exact (pa_cons (pv 7) (pa_cons (pe_glob (v := .ref (sC K)) (by rfl) T.g_SumError rfl) pa_nil)))))).run pins s1 σ H1 D I ?_
  exact ⟨_, h2, _, _, true, rfl, fun u hu => hu, XX.isN, q⟩
/-! ### the whole -/
def sp_L_others (Pt : Addr) : Sp := fun vs H Q _ => ∃ (d : Addr) (n : Nat), vs = [.ref d] ∧ Tape H d n ∧ n + 200 ≤ 1000000 ∧ H Pt = some (.tbl #[]) ∧ ∀ H', Q (.bl true) H'
theorem cal_L_others (T : Txt K mg) {c Pt : Addr} (hc : He.codeOf K ("_law_others_right", none) = c) (TB : TabB base mg c Pt) : C8.Cal P w K mg base 9 "_law_others_right" (sp_L_others Pt) [] := by
  haveI : ExW K := XX.w
  obtain ⟨fd, F⟩ := T.D_L_others_right
  have kp := F.kp
  have bd := F.bindsN (ps := ["_law_tape"]) (fun _ _ _ _ _ _ us hl => match us, hl with | [_], _ => rfl)
  obtain ⟨oc, od, dV, kV, doc, pm, an, cdv, ct, osl, rfl, lk, hcd, _, _⟩ := F.ex
  obtain ⟨c', rfl⟩ : ∃ c', cdv = .ref c' := by
    cases cdv <;> first | exact ⟨_, rfl⟩ | cases hcd
  have ec : c' = c := (He.codeOf_eq lk rfl).symm.trans hc
  subst ec
  refine ⟨_, _, _, [], fn_of (k := 8) lk hcd sc_L_others_right (fun vs H Q E h => ?_) (fun A outer s H vs Q E hr h => ?_), T.g_L_others_right, kp, bd, .nil⟩
  · obtain ⟨d, n, rfl, _⟩ := h
    rfl
  · obtain ⟨d, n, rfl, tp, nn, ht, k⟩ := h
    obtain ⟨fdR, FR⟩ := T.D_L_refused
    have kpR := FR.kp
    have bdR := FR.bindsN (ps := ["_law_call"]) (fun _ _ _ _ _ _ us hl => match us, hl with | [_], _ => rfl)
    obtain ⟨ocR, odR, dVR, kVR, docR, pmR, anR, cdvR, ctR, oslR, rfl, lkR, hcdR, _, _⟩ := FR.ex
    have gv : ∀ q : Str, GivesTo (oX P w K mg base (He.fAd K ("_law_others_right", none)) (.ref c') A outer s H E) ["_law_call", "_law_found", "e"] "_law_refused" (C8.fnScope s_L_refused) (He.fAd K ("_law_refused", none)) cdvR (C8.fnBody s_L_refused) "_law_call" q (TRef K) := fun q =>
      @refused_gives (oX P w K mg base (He.fAd K ("_law_others_right", none)) (.ref c') A outer s H E) T XX _ _ q
    have hr5 : Room (5 + 2) (oX P w K mg base (He.fAd K ("_law_others_right", none)) (.ref c') A outer s H E).A := hr.mono (by decide)
    have body : ∃ t, PSs (oX P w K mg base (He.fAd K ("_law_others_right", none)) (.ref c') A outer s H E) (C8.fnBody s_L_others_right) t ∧ t { nx := fun _ H' => Q .non H', rt := Q } (start oN [.ref d]) H := by
      refine ⟨_, pss_cons (ps_asg (pe_tup (pa_cons (pe_op op_add pe_int (C8.pe_c (cal_L_size T) hr (by decide) rfl (pa_cons (pv 0) (pa_cons pe_int pa_nil)))) (pa_cons (C8.pe_c (cal_L_signed T) hr (by decide) rfl (pa_cons (pv 0) (pa_cons pe_int pa_nil))) pa_nil))) (pg_tup rfl (pgs_cons (pg_name (i := 1) sc_L_others_right.nd rfl (Or.inr rfl)) (pgs_cons (pg_name (i := 2) sc_L_others_right.nd rfl (Or.inl rfl)) pgs_nil)))) (pss_cons (ps_asg (pe_tup (pa_cons (pe_op op_mod (pe_callTy call_intI (by rfl) T.f_int b_int (pa_cons (C8.pe_c (cal_L_size T) hr (by decide) rfl (pa_cons (pv 0) (pa_cons pe_int pa_nil))) pa_nil)) (pv 1)) (pa_cons (C8.pe_mk (mak_Course T) hr (by decide) rfl (pa_cons (pv 1) (pa_cons (pv 2) (pa_cons (pe_op op_mulW (pv 1) (C8.pe_c (cal_L_signed T) hr (by decide) rfl (pa_cons (pv 0) (pa_cons pe_int pa_nil)))) (pa_cons pe_int pa_nil))))) pa_nil))) (pg_tup rfl (pgs_cons (pg_name (i := 3) sc_L_others_right.nd rfl (Or.inl rfl)) (pgs_cons (pg_name (i := 4) sc_L_others_right.nd rfl (Or.inr rfl)) pgs_nil)))) (pss_cons (ps_if (pt_cmpR (op_neW (X := oX P w K mg base (He.fAd K ("_law_others_right", none)) (.ref c') A outer s H E) (met_W_eq (K := K) T) (ExW.mr (K := K)) (ExW.ne (K := K)) hr (by decide)) (C8.pe_mt (met_C_window T) hr (by decide) (pv 4) (pa_cons (pv 3) pa_nil)) (C8.pe_mk (mak_Window T) hr (by decide) rfl (pa_cons pe_int (pa_cons pe_int (pa_cons (pe_callTy call_intB (by rfl) T.f_int b_int (pa_cons (pe_cmpR op_eq (pe_op op_mod (pe_callTy call_intI (by rfl) T.f_int b_int (pa_cons (pv 2) pa_nil)) (pv 1)) (pv 3) (nomark _)) pa_nil)) pa_nil)))) (nomark _)) (pss_one (ps_ret pe_bl))
      pss_nil) (pss_cons (ps_par (i := 5) (j := 6) (by rfl) sc_L_others_right.nd rfl rfl (by decide) rfl rfl (pa_cons (pe_op op_add pe_int (pe_op op_mulW pe_int (C8.pe_c (cal_L_size T) hr (by decide) rfl (pa_cons (pv 0) (pa_cons pe_int pa_nil))))) (pa_cons pe_non pa_nil)) (by rfl))
        (pss_cons (ps_try_as (X := oX P w K mg base (He.fAd K ("_law_others_right", none)) (.ref c') A outer s H E) (i := 7) (c := .ref (nC K)) (ts := tsNot K) (Wout := fun _ _ _ _ => False) rfl rfl sc_L_others_right.nd rfl rfl ⟨rfl, by decide, .inl T.g_NotTold⟩ takes0
          (fun W pn xe tk _ => pss_one (ps_expr (pe_mx (metx_windowN (P := P) (K := K) T) hr (by decide) tk (C8.pe_mk (mak_Course T) hr (by decide) rfl (pa_cons (pv 1) (pa_cons (pv 2) (pa_cons pe_int (pa_cons (pv 5) pa_nil))))) (by exact (pa_cons (pv 3) pa_nil)))))
          (fun a oe cls d pn hz hf => suite_not T hz hf))
        (pss_one (ps_ret (pe_and (pe_cmpR op_isBl (pv 6) pe_bl (nomark _)) (pe_and (pe_cmpR op_eq (pe_lamcall (T := [(Pt, _)]) rfl T.g_L_refused kpR lkR hcdR bdR sc_L_refused rfl (Or.inl rfl) (gv _) TB rfl List.mem_cons_self (fun p hp _ => by rw [List.mem_singleton.mp hp]) hr5 (lamS_by (sc := C8.fnScope s_L_others_right) (by decide +kernel)) rfl (fun _ _ _ _ _ => rfl)
            (fun A outer s H E f c' hr => pe_mx (metx_window (P := P) (K := K) T) hr (by decide) (takes_of rfl rfl rfl rfl) (pv 4) (by exact (pa_cons (pv 1) pa_nil)))) (pe_callB SkE.call_repr_int (by rfl) T.f_repr b_repr (by exact (pa_cons (pv 1) pa_nil))) (nomark _))
          (pe_one (pe_cmpR op_eq (pe_lamcall (T := [(Pt, _)]) rfl T.g_L_refused kpR lkR hcdR bdR sc_L_refused rfl (Or.inl rfl) (gv _) TB rfl List.mem_cons_self (fun p hp _ => by rw [List.mem_singleton.mp hp]) hr5 (lamS_by (sc := C8.fnScope s_L_others_right) (by decide +kernel)) rfl (fun _ _ _ _ _ => rfl)
            (fun A outer s H E f c' hr => pe_mx (metx_gaps (P := P) (K := K) T) hr (by decide) (takes_of rfl rfl rfl rfl) (pv 4) (by exact (pa_cons (pe_un un_neg pe_int) pa_nil)))) pe_str (nomark _))))))))))), ?_⟩
      have t30 := ten_pos 30
      have Ptd : Pt ≠ d := by
        obtain ⟨c0, a0, r0, ys, hd, _⟩ := tp.ex
        exact ne_of ht hd (fun z => by cases z)
      refine ⟨_, rfl, d, 30, n, rfl, by decide, by decide, tp, by omega, fun a H1 a0 a1 sx1 tp1 => ⟨_, _, rfl, rfl, ?_⟩⟩
      refine ⟨_, rfl, d, 30, n + 8, rfl, by decide, by decide, tp1, by omega, fun S H2 s0 s1 sx2 tp2 => ⟨by show 2 ≤ sizeLine; decide, fun t nt => ⟨t, _, rfl, SqT.of upd_same, rfl, _, _, rfl, _, _, rfl, rfl, ?_⟩⟩⟩
      have SX2 : SameX d H (upd H2 t (.tup [.int (3 + a), .int S])) := (sx1.trans sx2).new nt
      have tp2' := tp2.same (Same.new (o := .tup [.int (3 + a), .int S]) nt)
      generalize upd H2 t (.tup [.int (3 + a), .int S]) = H2' at SX2 tp2' ⊢
      have bh : Bd 111 (3 + a) := by
        have : Bd 110 a := bd_10 (f := 30) (by omega) (by omega) (by decide)
        exact (Bd.add (Bd.lit64 (x := 3) (by decide)) this).mono (by decide)
      have h3 : 3 ≤ 3 + a := by omega
      clear sx1 sx2 tp1 tp2 nt
      refine ⟨_, rfl, d, 30, n + 17, rfl, by decide, by decide, tp2', by omega, fun y H3 y0 y1 sx3 tp3 => ⟨_, rfl, _, rfl, _, _, rfl, rfl, by omega, ?_⟩⟩
      have x0 := Int.emod_nonneg y (show 3 + a ≠ 0 by omega)
      have xh := Int.emod_lt_of_pos y (show 0 < 3 + a by omega)
      refine ⟨_, rfl, _, rfl, _, rfl, _, rfl, d, 9, n + 25, rfl, by decide, by decide, tp3, by omega, fun z H4 z0 z1 sx4 tp4 => ⟨_, _, rfl, rfl, ?_, fun p dx np ndx ne => ?_⟩⟩
      · have bz : Bd 110 z := bd_10 (f := 9) (by omega) (by omega) (by decide)
        exact Bd.mulW bh bz
      refine ⟨p, dx, 3 + a, S, (3 + a) * z, 1, rfl, by omega, by decide, Nat.gcd_one_left _, bh.mono (by decide), (Bd.lit64 (x := 1) (by decide)).mono (by decide), upd_same, rfl, by show 2 ≤ sizeLine; decide, fun t2 nt2 => ⟨t2, _, rfl, SqT.of upd_same, rfl, _, _, rfl, _, _, rfl, rfl, ?_⟩⟩
      generalize hH5 : upd (upd (upd (upd H4 dx _) p _) p _) t2 _ = H5
      have S5 : Same H4 H5 := by
        rw [← hH5]
        exact (same_made np ndx).add nt2
      have hp5 : H5 p = some (.ins (He.ga K "Course") dx (crsF (nrm (3 + a) S ((3 + a) * z) 1))) := by
        have pt : p ≠ t2 := fun e => by
          rw [← e, upd_same] at nt2
          cases nt2
        rw [← hH5, upd_ne pt]
        exact upd_same
      clear hH5 nt2 np ndx ne
      have SX5 : SameX d H H5 := ((SX2.trans sx3).trans sx4).trans (SameX.of S5)
      have tp5 := tp4.same S5
      clear S5 tp4 sx4 tp3 sx3 tp2' SX2
      have ok := nrm_ok (h := 3 + a) (s := S) (e := (3 + a) * z) (q := 1) (by omega) (by decide)
      have sm : (nrm (3 + a) S ((3 + a) * z) 1).Sm := nrm_sm (by omega) (by decide) (bh.mono (by decide)) ((Bd.lit64 (x := 1) (by decide)).mono (by decide))
      obtain ⟨ez, each⟩ := rest_win (S := S) h3 x0 xh (Int.mul_emod_right (3 + a) z)
      have hch : (nrm (3 + a) S ((3 + a) * z) 1).h = 3 + a := rfl
      generalize nrm (3 + a) S ((3 + a) * z) 1 = c at ok sm ez each hch hp5
      have xh' : y % (3 + a) < c.h := by rw [hch]; exact xh
      -- the resting window
      refine ⟨_, rfl, _, _, _, rfl, hp5, rfl, _, rfl, p, c, y % (3 + a), rfl, ⟨_, hp5⟩, sm, x0, xh', fun e => rest_each ok e _, Or.inl ez, fun q1 H6 s6 hq1 => ?_⟩
      rw [if_pos ez, each] at hq1
      have dec : ∀ b : Bool, (if b = true then (1 : Int) else 0) = 0 ∨ (if b = true then (1 : Int) else 0) = 1 := fun b => by cases b <;> simp
      refine ⟨_, rfl, _, rfl, _, rfl, _, _, rfl, rfl, by omega, _, rfl, rfl, _, rfl, fun q2 dy nq ny ne => ?_⟩
      refine ⟨q2, dy, 1, 0, _, rfl, by decide, ?_, ?_, upd_same, rfl, ?_⟩
      · show 0 ≤ (if decide (V.int (S % (3 + a)) = V.int (y % (3 + a))) = true then (1 : Int) else 0)
        split <;> decide
      · show (if decide (V.int (S % (3 + a)) = V.int (y % (3 + a))) = true then (1 : Int) else 0) ≤ 1
        split <;> decide
      have ew : (if decide (V.int (S % (3 + a)) = V.int (y % (3 + a))) = true then (1 : Int) else 0) = if S % (3 + a) = y % (3 + a) then 1 else 0 := by
        rw [dec_int0]
        by_cases e : S % (3 + a) = y % (3 + a) <;> simp [e]
      have nqq : q1 ≠ q2 := by
        obtain ⟨dz, hz⟩ := hq1
        exact ne_of_none hz nq
      generalize hH7 : upd (upd (upd H6 dy _) q2 _) q2 _ = H7
      have S7 : Same H6 H7 := by
        rw [← hH7]
        exact same_made nq ny
      have hq2 : WinAt K H7 q2 (wn 1 0 (if S % (3 + a) = y % (3 + a) then 1 else 0)) := by
        refine ⟨dy, ?_⟩
        rw [← hH7, ← ew]
        exact upd_same
      have hq1' := hq1.mono S7
      clear hH7 nq ny ne hq1
      obtain ⟨da, ha⟩ := id hq1'
      obtain ⟨db, hb⟩ := id hq2
      refine ⟨q1, q2, _, _, _, _, rfl, rfl, ha, hb, q1, q2, _, rfl, hq1', hq2, fun H8 s8 => ⟨true, rfl, _, rfl, iteF ?_⟩⟩
      have SX8 := SX5.trans (SameX.of ((s6.trans S7).trans s8))
      have tp8 := tp5.same ((s6.trans S7).trans s8)
      have hp8 := s8 _ _ (S7 _ _ (s6 _ _ hp5))
      clear ha hb hq2 hq1' s8 S7 s6 hp5 tp5 SX5
      have pd : p ≠ d := by
        obtain ⟨c0, a0, r0, ys, hd, _⟩ := tp8.ex
        exact ne_of hp8 hd (fun z => by cases z)
      -- a course that is not told
      refine ⟨_, rfl, d, 20, n + 34, rfl, by decide, by decide, tp8, by omega, fun u H9 u0 u1 sx9 tp9 => ⟨_, _, rfl, rfl, ?_, _, _, rfl, rfl, _, _, rfl, ?_⟩⟩
      · have bu : Bd 110 u := bd_10 (f := 20) (by have := ten_pos 20; omega) (by omega) (by decide)
        exact Bd.mulW (Bd.lit64 (x := 2) (by decide)) bu
      have SX9 := SX8.trans sx9
      have hp9 := sx9 _ _ pd hp8
      have br : Bd 112 (3 + 2 * u) := by
        have bu : Bd 110 u := bd_10 (f := 20) (by have := ten_pos 20; omega) (by omega) (by decide)
        have : Bd 111 (2 * u) := by
          unfold Bd at *
          have : (2 : Nat) ^ 111 = 2 * 2 ^ 110 := by decide
          omega
        exact (Bd.add (Bd.lit64 (x := 3) (by decide)) this).mono (by decide)
      have q3 : 3 ≤ 3 + 2 * u := by omega
      have cop := odd_cop u0
      refine ⟨_, rfl, _, rfl, _, rfl, fun p2 dx2 np ndx ne => ?_⟩
      refine ⟨p2, dx2, 3 + a, S, 2, 3 + 2 * u, rfl, by omega, by omega, cop, bh.mono (by decide), br.mono (by decide), upd_same, rfl, ?_⟩
      have sm2 : (nrm (3 + a) S 2 (3 + 2 * u)).Sm := nrm_sm (by omega) (by omega) (bh.mono (by decide)) (br.mono (by decide))
      obtain ⟨ns1, ns2, ns3⟩ := not_slow (S := S) h3 q3
      refine ⟨_, _, _, rfl, upd_same, rfl, _, rfl, p2, nrm (3 + a) S 2 (3 + 2 * u), y % (3 + a), rfl, ⟨_, upd_same⟩, sm2, x0, xh, ns1, ns2, ns3, ?_⟩
      refine ⟨true, XX.exN, fun _ ae na => ⟨rfl, rfl, rfl, ?_⟩, fun e => by cases e⟩
      have SXA := SX9.trans (SameX.of (same_made (x := p2) (dx := dx2) (C := He.ga K "Course") (fs := crsF (nrm (3 + a) S 2 (3 + 2 * u))) np ndx))
      have hpA := (same_made (x := p2) (dx := dx2) (C := He.ga K "Course") (fs := crsF (nrm (3 + a) S 2 (3 + 2 * u))) np ndx) _ _ hp9
      have htA := SXA _ _ Ptd ht
      generalize upd (upd (upd H9 dx2 _) p2 _) p2 _ = HA at SXA hpA htA ⊢
      refine ⟨_, rfl, _, _, rfl, rfl, _, rfl, iteT ?_⟩
      have T0 : ∀ q : Str, Tabs [(Pt, q)] HA := fun q e he => by
        rw [List.mem_singleton.mp he]
        exact TabS.nil htA
      refine ⟨T0 _, fun HB eN T1 => ?_⟩
      have hpB := eN _ _ hpA (fun ps e => by cases e)
      have lg : (3 + a).natAbs.log2 < 1920 := by
        refine Nat.lt_trans ((Nat.log2_lt (by omega)).mpr (show (3 + a).natAbs < 2 ^ 111 from bh)) (by decide)
      refine ⟨_, rfl, _, _, _, rfl, hpB, rfl, _, rfl, p, c, 3 + a, rfl, ⟨_, hpB⟩, Or.inr (by rw [hch]; exact Int.le_refl _), fun dd nd => ⟨3 + a, dd, rfl, rfl, upd_same, lg, ?_⟩⟩
      refine ⟨_, rfl, _, rfl, lg, rfl, _, rfl, ite2 (fun _ => ?_) (fun e => absurd (decide_eq_true rfl) e)⟩
      have T2 := T1.ext fun b o e => Same.new (o := .xd [(("value" : Str), V.int (3 + a))]) nd b o e
      have hpC := Same.new (o := .xd [(("value" : Str), V.int (3 + a))]) nd _ _ hpB
      refine ⟨T2, fun HC eN2 T3 => ?_⟩
      have hpD := eN2 _ _ hpC (fun ps e => by cases e)
      refine ⟨_, rfl, _, _, _, rfl, hpD, rfl, _, rfl, p, c, -1, rfl, ⟨_, hpD⟩, Or.inl (by decide), fun de ne => ⟨-1, de, rfl, rfl, upd_same, by decide, ?_⟩⟩
      refine ⟨rfl, ?_⟩
      have es : decide (V.str (toString (-1 : Int)) = V.str "-1") = true := by decide +kernel
      show Q (.bl (decide (V.str (toString (-1 : Int)) = V.str "-1"))) _
      rw [es]
      exact k _
    obtain ⟨t, h1, h2⟩ := body
    exact ⟨t, h1.nox, h2⟩
end
end K21

set_option Elab.async false
set_option linter.all false
set_option maxRecDepth 100000
set_option maxHeartbeats 4000000
set_option exponentiation.threshold 2000
/-! The walk: the law. -/
namespace K21
open PySem PySem.Spec PyProof.Rows L2 LamX
local macro_rules | `(tactic| walk_at "pos") => `(tactic| first | assumption | ((with_reducible show (0 : Int) < _); first | assumption | omega | decide) | decide)
local macro_rules | `(tactic| walk_at "b") => `(tactic| (repeat' (first | ((with_reducible show Bd _ _); first | assumption | exact Bd.lit64 (by decide) | (refine' Bd.add ?_ ?_) | (refine' Bd.sub ?_ ?_) | (refine' Bd.mul ?_ ?_) | (refine' Bd.neg ?_) | (refine' Bd.div ?_ ?_) | (refine' Bd.mod ?_ ?_)) | ((with_reducible show (_ : Int) < _); first | assumption | omega))))
local macro_rules | `(tactic| walk_at "mul") => `(tactic| exact Bd.mulW (by walk_at "b") (by walk_at "b") (by decide))
local macro_rules | `(tactic| walk_at "div") => `(tactic| exact Bd.divW (by walk_at "pos") (by walk_at "b") (by decide))
section
variable {P : Program} {w : World} {K : PySem.W.Frag} {mg : Str → Option Value} {base : Heap} [XX : ExX P K]
def sp_law (K : PySem.W.Frag) (Pt : Addr) : Sp := fun vs H Q _ => ∃ (a : Addr) (ns : List Int), vs = [.ref a] ∧ SqL K H a (ns.map V.int) ∧ H Pt = some (.tbl #[]) ∧ ∀ H', Q (.bl true) H'
theorem sc_law : FnScope ["_law_script", "_law_tape", "_law_turn", "_law_told", "_law_house_here"] ["_law_script"] (C8.fnScope s_law) := C8.fnScope_by (by decide +kernel)
theorem fn_law (T : Txt K mg) {fd : FuncData} (F : FunD K "law" "law" (C8.fnArgs s_law) (C8.fnBody s_law) (C8.fnScope s_law) [] [] (He.fAd K ("law", none)) fd) {c Pt : Addr} (hc : He.codeOf K ("_law_others_right", none) = c) (TB : TabB base mg c Pt) : FnOk P w K mg base C8.CX0 10 (He.ga K "law") fd ["_law_script"] (sp_law K Pt) := by
  haveI : ExW K := XX.w
  refine C8.fn0 (k := 9) (fun_c8 F) sc_law (fun vs H Q E h => ?_) (fun cdv A outer s H vs Q E hr h => ?_)
  · obtain ⟨a, ns, rfl, _⟩ := h
    rfl
  · obtain ⟨a, ns, rfl, hS, ht, k⟩ := h
    refine ⟨_, (pss_cons (ps_set (i := 1) sc_law.nd rfl (Or.inl rfl) (C8.pe_c (cal_L_begin T) hr (by decide) rfl (pa_cons (pv 0) pa_nil)))
      (pss_cons (ps_for PassesOwn.never rfl (pi_range1 rfl T.f_range (pa_cons pe_int pa_nil)) (pg_name (i := 2) sc_law.nd rfl (Or.inl rfl))
      (pss_cons (ps_set (i := 3) sc_law.nd rfl (Or.inl rfl) (C8.pe_c (cal_L_drawn T) hr (by decide) rfl (pa_cons (pv 1) (pa_cons pe_int pa_nil))))
      (pss_cons (ps_set (i := 4) sc_law.nd rfl (Or.inl rfl) (pe_op op_mod (pe_callTy call_intI (by rfl) T.f_int b_int (pa_cons (C8.pe_c (cal_L_pick T) hr (by decide) rfl (pa_cons (pv 1) (pa_cons (pe_lst (pa_cons pe_int (pa_cons (C8.pe_c (cal_L_house T) hr (by decide) rfl (pa_cons (pv 3) (pa_cons (C8.pe_c (cal_L_size T) hr (by decide) rfl (pa_cons (pv 1) (pa_cons pe_int pa_nil))) pa_nil))) (pa_cons (C8.pe_c (cal_L_house T) hr (by decide) rfl (pa_cons (pv 3) (pa_cons pe_int pa_nil))) (pa_cons (C8.pe_c (cal_L_size T) hr (by decide) rfl (pa_cons (pv 1) (pa_cons pe_int pa_nil))) pa_nil))))) pa_nil))) pa_nil)) (pe_ix ix_tup (pv 3) pe_int (fun _ _ => rfl))))
      (pss_one (ps_if (pt_not (pt_val (C8.pe_c (cal_L_gaps_right T) hr (by decide) rfl (pa_cons (pv 1) (pa_cons (pv 3) (pa_cons (pv 4) pa_nil)))))) (pss_one (ps_ret pe_bl))
      pss_nil)))))
      (pss_one (ps_ret (pe_and (C8.pe_c (cal_L_small_right T) hr (by decide) rfl (pa_cons (pv 1) pa_nil)) (pe_and (C8.pe_c (cal_L_window_right (K := K) T) hr (by decide) rfl (pa_cons (pv 1) pa_nil)) (pe_one (C8.pe_c (cal_L_others (P := P) (K := K) T hc TB) hr (by decide) rfl (pa_cons (pv 1) pa_nil))))))))), ?_⟩
    refine ⟨_, rfl, a, ns, rfl, hS, fun d H1 s1 nd tp1 => ?_⟩
    have ht1 := s1 _ _ ht
    have Ptd : Pt ≠ d := ne_of_none ht nd
    refine ⟨2, rfl, by decide, by decide, ?_⟩
    refine for_range (fun i σ H' => ∃ v2 v3 v4 : Option V, σ = [some (.ref a), some (.ref d), v2, v3, v4] ∧ SameX d H1 H' ∧ Tape H' d (300 * i)) ⟨_, _, _, rfl, SameX.refl d H1, tp1⟩ ?_ ?_
    · rintro i σ H2 hi ⟨v2, v3, v4, rfl, SX, tp⟩
      have i2 : i < 2 := hi
      refine ⟨_, rfl, d, 30, 300 * i, rfl, by decide, by decide, tp, by omega, fun t H3 h S e q sx3 tp3 ht dr => ?_⟩
      have h1 := dr.h1
      have q1 := dr.q1
      have t30 := ten_pos 30
      have bh : Bd 110 h := bd_10 (f := 30) (by omega) dr.hh (by decide)
      have bq : Bd 110 q := bd_10 (f := 30) (by omega) (by have := dr.qq; omega) (by decide)
      have td : t ≠ d := by
        obtain ⟨c0, a0, r0, ys, hd, _⟩ := tp3.ex
        exact ne_of ht hd (fun z => by cases z)
      refine ⟨_, rfl, _, rfl, _, rfl, d, 9, 300 * i + 60, rfl, by decide, by decide, tp3, by omega, fun k1 H4 k10 k11 sx4 tp4 => ?_⟩
      have ht4 := sx4 _ _ td ht
      have bk : Bd 110 k1 := bd_10 (f := 9) (by have := ten_pos 9; omega) (by omega) (by decide)
      refine ⟨t, h, S, e, q, k1, rfl, ht4, by omega, by omega, bh.mono (by decide), bq.mono (by decide), dr.be.mono (by decide), bk.mono (by decide), ?_⟩
      refine ⟨_, rfl, t, h, S, e, q, 0, rfl, ht4, by omega, by omega, bh.mono (by decide), bq.mono (by decide), dr.be.mono (by decide), (Bd.lit64 (x := 0) (by decide)).mono (by decide), ?_⟩
      refine ⟨_, rfl, d, 30, 300 * i + 68, rfl, by decide, by decide, tp4, by omega, fun k2 H5 k20 k21 sx5 tp5 => ⟨by show 4 ≤ sizeLine; decide, fun l nl => ?_⟩⟩
      refine ⟨d, l, _, 300 * i + 76, rfl, tp5.same (Same.new nl), by omega, upd_same, by show 1 ≤ 4; decide, by show 4 ≤ 100; decide, fun v H6 hv sx6 tp6 => ?_⟩
      obtain ⟨z, rfl⟩ : ∃ z : Int, v = .int z := by
        simp only [List.mem_cons, List.not_mem_nil, or_false] at hv
        rcases hv with e | e | e | e <;> exact ⟨_, e⟩
      have ht6 : H6 t = some (.tup [.int h, .int S, .int e, .int q]) := sx6 _ _ td (Same.new nl _ _ (sx5 _ _ td ht4))
      have h0 : 0 < h := by omega
      refine ⟨_, rfl, _, rfl, t, _, _, _, rfl, rfl, SqT.of ht6, rfl, _, _, rfl, rfl, h0, ?_⟩
      refine ⟨_, rfl, _, rfl, _, rfl, d, t, 300 * i + 77, h, S, e, q, z % h, rfl, tp6, by omega, ht6, dr, Int.emod_nonneg _ (by omega), Int.emod_lt_of_pos _ h0, fun H7 sx7 tp7 => ⟨true, rfl, iteF ?_⟩⟩
      exact ⟨_, _, _, rfl, ((((SX.trans sx3).trans sx4).trans sx5).new nl).trans (sx6.trans sx7), tp7.mono (by omega)⟩
    · rintro σ H2 ⟨v2, v3, v4, rfl, SX, tp⟩
      refine ⟨_, rfl, d, _, rfl, tp, by omega, fun H3 sx3 tp3 => ⟨true, rfl, iteT ?_⟩⟩
      refine ⟨_, rfl, d, _, rfl, tp3, by omega, fun H4 sx4 tp4 => ⟨true, rfl, iteT ?_⟩⟩
      exact ⟨_, rfl, d, _, rfl, tp4, by omega, sx4 _ _ Ptd (sx3 _ _ Ptd (SX _ _ Ptd ht1)), fun H5 => k H5⟩
end
end K21

set_option Elab.async false
set_option linter.all false
set_option maxRecDepth 100000
set_option maxHeartbeats 0
/-! The head: what is seen of the text behind its top. -/
namespace K21
open PySem PySem.W PySem.Calls PyProof.Rows
abbrev LW : OpenLaw := PySem.Challenge.rw_dealtsums_k21_whole_gaps_and_windows_of
def eqB (a : Option Bool) (b : Bool) : Bool := decide (a = some b)
def seenW (K : Frag) : Bool := He.eqO (findIn K (.ref (He.ga K "Window")) "__class__") (some (some (.builtin "object.__class__"))) &&
  (He.eqO (specialIn K (.builtin "object.__class__") "__get__") (some (some (.builtin "getset_descriptor.__get__"))) && (eqB (takesIn K (.builtin "object.__class__")) true && (eqB (mroIn K (He.ga K "Window") (.type "object")) true &&
  He.eqO (findIn K (.ref (He.ga K "Window")) "__ne__") (some (some (.builtin "object.__ne__"))))))
/-- an own error class over ValueError, with instances' dicts -/
def seenC (K : Frag) (C : Addr) : Bool := match K.lookup C with
  | some ⟨cl, _, .cls cd, sl⟩ => (match cd.mro, sl.toList with
    | .ref D :: bm, [_, _, _, _, some (.builtin n), _] => decide (cl = .type "type") && (decide (D = C) && (decide (n = "ValueError.__new__") && (decide (cd.hasDel = false) && (decide (cd.hasDict = true) && PySem.HandSPX.refsVE bm))))
    | _, _ => false)
  | _ => false
def seenE (K : Frag) (D : Addr) : Bool := He.eqO (findIn K (.ref D) "__getattribute__") (some (some (.builtin "BaseException.__getattribute__"))) && (He.eqO (findIn K (.ref D) "__getattr__") (some none) && (eqB (subIn K (.ref D) (.type "BaseException")) true && (hasDictIn K D && (He.eqO (findIn K (.ref D) "__class__") (some (some (.builtin "object.__class__"))) && eqB (mroIn K D (.type "object")) true))))
def seenI (K : Frag) : Bool := match K.lookup (He.fAd K ("BadValue", some "__init__")) with
  | some ⟨_, _, .func fd, _⟩ => decide (fd.defaults = .none) && (match fd.code, fd.closure with
    | .ref cda, [(_, cc)] => codeIn K (.ref cda) "BadValue.__init__" && ((match K.lookup cda with
      | some ⟨_, _, .fields vs, _⟩ => (match (vs[2]? : Option Value) with
        | some (.str file _) => (LW.prog.main.file : Str) == file
        | _ => false)
      | _ => false) && (match K.lookup cc with
      | some ⟨_, _, .cell (some (.ref D)), _⟩ => decide (D = bC K)
      | _ => false))
    | _, _ => false)
  | _ => false
def seenB (K : Frag) : Bool := seenC K (bC K) && (He.eqO (findIn K (.ref (bC K)) "__setattr__") (some (some (.builtin "object.__setattr__"))) && (eqB (subIn K (.ref (bC K)) (.type "BaseException")) true && (decide (typeIn K (.ref (bC K)) = some (.type "type")) && (keepIn K (.ref (bC K)) &&
  (He.eqO (findIn K (.ref (bC K)) "__init__") (some (some (.ref (He.ma K (bC K) "__init__")))) && (decide (typeIn K (.ref (He.ma K (bC K) "__init__")) = some (.type "function")) && (He.eqO (findIn K (.ref (bC K)) "value") (some none) && (eqB (mroIn K (bC K) (.ref (bC K))) true && (eqB (subIn K (.ref (bC K)) (.type "ValueError")) true &&
  (He.eqO (nsIn K cStatics "thirdparty.any") (some none) && (He.eqO (ks_superIn K (bC K) (bC K) "__init__") (some (some (.builtin "ValueError.__init__"))) && seenI K)))))))))))
def seenX (K : Frag) : Bool := seenE K (bC K) && (seenE K (nC K) && (eqB (kitOne K (.ref (bC K)) (.ref (sC K))) true && (eqB (kitOne K (.ref (nC K)) (.ref (sC K))) true)))
def seen (K : Frag) : Bool := seenW K && (seenB K && seenX K)
abbrev InW : Type := Option (Str × Str × Arguments × FuncBody × Scope × Addr × List Str × Addr)
def initW (K : Frag) : InW := (He.fnW K ("BadValue", some "__init__")).map fun t => (t.1, t.2.1, t.2.2.1, t.2.2.2.1, t.2.2.2.2.1, t.2.2.2.2.2.1, t.2.2.2.2.2.2.1.map (·.1), t.2.2.2.2.2.2.2)
def initV : InW := some ("__init__", "BadValue.__init__", bA, .stmts bB, bS, mainGlobals, ["__class__"], builtinsNs)
abbrev tf : List He.Defn := [("_law_others_right", none)]
/-- the objects that are looked at -/
def KK (g : Addr → Option Obj) : Frag := He.frT g (cStatics :: He.asD g 5)
def obY (g : Addr → Option Obj) : He.AlX × InW := ((He.obsT fa fn [] (KK g), seen (KK g) && He.tabsB g tf (KK g)), initW (KK g))
theorem says_of {w : World} {h : Heap} (e : obY h.get? = (He.valX fn [] w, initV)) : He.SaysX fa fn [] tf seen w h (KK h.get?) ∧ initW (KK h.get?) = initV := by
  have e0 : ((He.obsT fa fn [] (KK h.get?), seen (KK h.get?) && He.tabsB h.get? tf (KK h.get?)) : He.AlX) = He.valX fn [] w := congrArg Prod.fst e
  have e1 : He.obsT fa fn [] (KK h.get?) = He.valT fn [] w := congrArg Prod.fst e0
  have e2 : (seen (KK h.get?) && He.tabsB h.get? tf (KK h.get?)) = true := congrArg Prod.snd e0
  obtain ⟨h1, h2⟩ := Bool.and_eq_true_iff.mp e2
  have key : ∀ p ∈ tf, codeHdIn (KK h.get?) (He.cT (KK h.get?) p).1 (He.cT (KK h.get?) p).2 = true ∧ ∃ o, h.get? (He.cT (KK h.get?) p).2 = some o ∧ He.emptyTab o = true := fun p hp => by
    obtain ⟨h3, h4⟩ := Bool.and_eq_true_iff.mp (List.all_eq_true.mp h2 p hp)
    refine ⟨h3, ?_⟩
    cases q : h.get? (He.cT (KK h.get?) p).2 with
    | none =>
      rw [q] at h4
      cases h4
    | some o =>
      rw [q] at h4
      exact ⟨o, rfl, h4⟩
  refine ⟨⟨e1, h1, fun p hp => (key p hp).1, fun p hp => ?_, fun p hp => ?_⟩, congrArg Prod.snd e⟩
  · obtain ⟨_, o, q, z⟩ := key p hp
    exact He.frT_none q z
  · obtain ⟨_, o, q, z⟩ := key p hp
    rw [q, He.emptyTab_eq z]
def hookY : Hook where
  α := He.AlX × InW
  obs := fun s => obY s.heap.get?
  val := fun w => (He.valX fn [] w, initV)
  says := fun w h => ∃ K : Frag, K.In h ∧ He.SaysX fa fn [] tf seen w h K ∧ initW K = initV
  of := fun _ _ e => ⟨_, He.frT_in, says_of e⟩
  keeps := fun _ _ _ ⟨K, hK, c, i⟩ k => ⟨K, Frag.In.keeps hK k, ⟨c.t, c.more, c.hd, c.out, fun p hp => k _ _ (c.empty p hp)⟩, i⟩
abbrev R : OpenRow := OpenLaw.row PySem.Challenge.rw_dealtsums_k21_whole_gaps_and_windows_of
abbrev qv : Program := view R.prog [41]
def loose0 : List PySem.Str := ["_wall", "SumError", "BadValue", "NotTold", "is_integer", "is_whole", "need_integer", "need_whole", "need_positive", "need_below", "common_factor", "total_of"]
def loose1 : List PySem.Str := ["count_in", "first_in", "first_from", "below", "Window", "Course", "_law_begin", "_law_draw", "_law_pick", "_law_whole_is", "_law_truth", "_law_ten"]
def loose2 : List PySem.Str := ["_law_long", "_law_size", "_law_signed", "_law_common", "_law_refused", "_law_drawn", "_law_house", "_law_gaps_right", "_law_small_right", "_law_window_right", "_law_others_right"]
def loose : List PySem.Str := loose0 ++ (loose1 ++ loose2)
def ob (s : SharedT) : He.AlX × InW := obY (HandSHeadRun.getT s)
theorem ob_eq (s : SharedT) : ob s = hookY.obs s.abs := by
  have e : HandSHeadRun.getT s = s.abs.heap.get? := funext (HandSHeadRun.getT_eq s)
  show obY (HandSHeadRun.getT s) = obY s.abs.heap.get?
  rw [e]
theorem run (w : World) : HandSHeadRun.RunEq R qv hookY ob 3000 loose w := by
  intro os
  kernel_rfl
end K21

set_option Elab.async false
set_option linter.all false
set_option maxRecDepth 100000
set_option maxHeartbeats 0
/-! What the head tells, as the walk wants it. -/
namespace K21
open PySem PySem.W PySem.Calls PyProof.Rows
section
variable {K : Frag}
theorem eqB_ok {a : Option Bool} {b : Bool} (h : eqB a b = true) : a = some b := of_decide_eq_true h
theorem seenW_ok (h : seenW K = true) : ExW K := by
  obtain ⟨h1, h⟩ := He.ba h
  obtain ⟨h2, h⟩ := He.ba h
  obtain ⟨h3, h⟩ := He.ba h
  obtain ⟨h4, h5⟩ := He.ba h
  exact ⟨He.eqO_ok h1, He.eqO_ok h2, eqB_ok h3, eqB_ok h4, He.eqO_ok h5⟩
theorem seenC_ok {C : Addr} (h : seenC K C = true) : ∃ nm q N bs bm sn sub ab col dd k0 k1 k2 k3 k5, K.lookup C = some (excClassObj nm q C N bs bm true sn sub ab col dd k0 k1 k2 k3 k5 "ValueError.__new__") ∧ PySem.HandSPX.refsVE bm = true := by
  unfold seenC at h
  split at h
  · rename_i cl dd cd sl ho
    split at h
    · rename_i D bm k0 k1 k2 k3 n k5 hm hs
      obtain ⟨h1, h⟩ := He.ba h
      obtain ⟨h2, h⟩ := He.ba h
      obtain ⟨h3, h⟩ := He.ba h
      obtain ⟨h4, h⟩ := He.ba h
      obtain ⟨h5, h6⟩ := He.ba h
      have c1 := of_decide_eq_true h1
      have c2 := of_decide_eq_true h2
      have c3 := of_decide_eq_true h3
      have c4 : cd.hasDel = false := of_decide_eq_true h4
      have c5 : cd.hasDict = true := of_decide_eq_true h5
      clear h1 h2 h3 h4 h5
      obtain ⟨nm, bs, mro, ns, qn, hd, sn, sub, ab, col, del⟩ := cd
      dsimp only at hm c4 c5
      subst hm c4 c5 c1 c2 c3
      have hsl : sl = #[k0, k1, k2, k3, some (.builtin "ValueError.__new__"), k5] := by
        obtain ⟨l⟩ := sl
        simp only at hs
        rw [hs]
      subst hsl
      exact ⟨nm, qn, ns, bs, bm, sn, sub, ab, col, dd, k0, k1, k2, k3, k5, ho, h6⟩
    · cases h
  · cases h
theorem seenE_ok {D : Addr} (w : ExW K) (h : seenE K D = true) : L2.ExcC K D := by
  obtain ⟨h1, h⟩ := He.ba h
  obtain ⟨h2, h⟩ := He.ba h
  obtain ⟨h3, h⟩ := He.ba h
  obtain ⟨h4, h⟩ := He.ba h
  obtain ⟨h5, h6⟩ := He.ba h
  exact ⟨He.eqO_ok h1, He.eqO_ok h2, eqB_ok h3, h4, He.eqO_ok h5, w.gt, w.tk, eqB_ok h6⟩
theorem seenI_ok (h : seenI K = true) (i : initW K = initV) : ∃ (oc : Value) (od : Option Addr) (dV kV doc pm : Value) (an : Option Addr) (cda : Addr) (ct : Value) (osl : Array (Option Value)) (cc : Addr) (ccl : Value) (cdd : Option Addr) (vs : Array Value) (ccs : Array (Option Value)) (file : Str) (tf : Tok) (cl : Value) (cld : Option Addr) (csl : Array (Option Value)),
    K.lookup (He.ma K (bC K) "__init__") = some ⟨oc, od, .func (ksFn "__init__" "BadValue.__init__" bA bB bS dV kV doc pm an (.ref cda) ct cc), osl⟩ ∧ codeIn K (.ref cda) "BadValue.__init__" = true ∧
    K.lookup cda = some ⟨ccl, cdd, .fields vs, ccs⟩ ∧ vs[2]? = some (.str file tf) ∧ ((LW.prog.main.file : Str) == file) = true ∧ K.lookup cc = some ⟨cl, cld, .cell (some (.ref (bC K))), csl⟩ ∧ dV = .none := by
  unfold seenI at h
  split at h
  · rename_i oc od fd osl ho
    obtain ⟨h1, h⟩ := He.ba h
    have c1 : fd.defaults = .none := of_decide_eq_true h1
    clear h1
    split at h
    · rename_i cda y cc hc hcl
      obtain ⟨h2, h⟩ := He.ba h
      obtain ⟨h3, h4⟩ := He.ba h
      split at h3
      · rename_i ccl cdd vs ccs hk
        split at h3
        · rename_i file tk hv
          split at h4
          · rename_i cl cld D csl hq
            have h4 := of_decide_eq_true h4
            subst h4
            have ho' : K.lookup (He.ma K (bC K) "__init__") = some ⟨oc, od, .func fd, osl⟩ := ho
            obtain ⟨n1, n2, n3, n4, n5, n6, n7, n8, n9, n10, n11, n12, n13, n14, n15⟩ := fd
            have e : initW K = some (n1, n2, n3, n4, n5, n6, n7.map (·.1), n15) := by
              unfold initW He.fnW
              rw [ho]
              rfl
            rw [e] at i
            have i2 : (some (n1, n2, n3, n4, n5, n6, n7.map (·.1), n15) : InW) = some ((("__init__" : Str), ("BadValue.__init__" : Str), bA, FuncBody.stmts bB, bS, mainGlobals, [("__class__" : Str)], builtinsNs)) := i
            simp only [Option.some.injEq, Prod.mk.injEq] at i2
            obtain ⟨e1, e2, e3, e4, e5, e6, e7, e8⟩ := i2
            dsimp only at hc hcl c1
            subst hcl hc c1
            have e7' : y = "__class__" := by
              have := List.cons.inj e7
              exact this.1
            subst e1 e2 e3 e4 e5 e6 e7' e8
            exact ⟨oc, od, _, _, _, _, _, cda, _, osl, cc, ccl, cdd, vs, ccs, file, tk, cl, cld, csl, ho', h2, hk, hv, h3, hq, rfl⟩
          · cases h4
        · cases h3
      · cases h3
    · cases h
  · cases h
theorem seen_ok (d : He.SaysD fa fn K) (h : seen K = true) (i : initW K = initV) : ExX LW.prog K := by
  obtain ⟨hw, h⟩ := He.ba h
  obtain ⟨hb, hx⟩ := He.ba h
  have w := seenW_ok hw
  obtain ⟨b1, hb⟩ := He.ba hb
  obtain ⟨b2, hb⟩ := He.ba hb
  obtain ⟨b3, hb⟩ := He.ba hb
  obtain ⟨b4, hb⟩ := He.ba hb
  obtain ⟨b5, hb⟩ := He.ba hb
  obtain ⟨b6, hb⟩ := He.ba hb
  obtain ⟨b7, hb⟩ := He.ba hb
  obtain ⟨b8, hb⟩ := He.ba hb
  obtain ⟨b9, hb⟩ := He.ba hb
  obtain ⟨b10, hb⟩ := He.ba hb
  obtain ⟨b11, hb⟩ := He.ba hb
  obtain ⟨b12, b13⟩ := He.ba hb
  obtain ⟨x1, hx⟩ := He.ba hx
  obtain ⟨x2, hx⟩ := He.ba hx
  obtain ⟨x3, x4⟩ := He.ba hx
  have eB := seenE_ok w x1
  have own := He.exc_ok (d.fact 75 (f := .exc "NotTold") rfl)
  exact {
    w := w
    bad := { ox := ⟨seenC_ok b1, He.eqO_ok b2, eqB_ok b3, of_decide_eq_true b4, b5⟩, iC := He.eqO_ok b6, tI := of_decide_eq_true b7, noN := He.eqO_ok b8, sub := eqB_ok b9, subV := eqB_ok b10, opq := He.eqO_ok b11, sup := He.eqO_ok b12, top := by kernel_rfl, fn := seenI_ok b13 i }
    xf := ⟨eB.hg, eB.hk, eB.hs, eB.hd⟩
    ecB := eB
    ecN := seenE_ok w x2
    isB := eqB_ok x3
    isN := eqB_ok x4
    exN := He.exm_ok (d.fact 76 (f := .exm "NotTold" "NotTold" true) rfl)
    exB := He.exm_ok (d.fact 77 (f := .exm "BadValue" "BadValue" true) rfl)
    own := own }
end
end K21

set_option Elab.async false
set_option linter.all false
set_option maxRecDepth 100000
set_option maxHeartbeats 0
/-! The end: head and walk joined. -/
namespace K21
open PySem PySem.W PySem.Calls PyProof.Rows
theorem law_at {w : World} {h : Heap} {mg : Str → Option Value} {fa' : Addr} (G : h.Ns mainGlobals mg) (hmg : mg ("law" : Str) = some (.ref fa')) (Y : hookY.says w h) : ∃ K : Frag, K.In h ∧ LamX.LawAtS LW w K C8.CX0 10 63 "_law_script" mg fa' h := by
  obtain ⟨K, KX, c, i⟩ := Y
  have d : He.SaysD fa fn K := c.t.d
  have T : Txt K mg := ⟨d, fun x hx => He.glo_ok KX G hx, fun x hx => He.free_ok KX G hx⟩
  haveI : ExX LW.prog K := seen_ok d c.more i
  have e := hmg.symm.trans T.g_law
  cases e
  obtain ⟨fd, F⟩ := T.D_law
  have b := F.bindsA (ps := ["_law_script"]) (fun _ _ _ _ _ _ us hl => match us, hl with | [_], _ => rfl)
  have one : ∀ p ∈ [He.cT K ("_law_others_right", none)], p = He.cT K ("_law_others_right", none) := fun p hp => List.mem_singleton.mp hp
  have mem : (("_law_others_right", none) : He.Defn) ∈ tf := List.mem_cons_self
  refine ⟨K, KX, fd, [He.cT K ("_law_others_right", none)], sp_law K (He.cT K ("_law_others_right", none)).2, fun p hp => ?_, fun p hp => ?_, fun p hp => ?_, fun s u => b s [u] rfl, fun H a ns hl hb ht hS => ⟨a, ns, rfl, hS, ht _ List.mem_cons_self, fun _ => rfl⟩, fun base hK hB hTB => ?_⟩
  · rw [one p hp]
    exact c.empty _ mem
  · rw [one p hp]
    exact c.out _ mem
  · rw [one p hp]
    exact codeHd_of_K KX (c.hd _ mem)
  · exact fn_law T F rfl (hTB _ List.mem_cons_self)
end K21
open PySem PySem.W PySem.Calls PyProof.Rows
theorem PySem.Challenge.cw_dealtsums_k21_whole_gaps_and_windows_of_holds : PySem.Challenge.rw_dealtsums_k21_whole_gaps_and_windows_of.Holds := by
  w_on; o_law
  refine HandSHeadRun.head_any (r := OpenLaw.row PySem.Challenge.rw_dealtsums_k21_whole_gaps_and_windows_of) (q := view (OpenLaw.row PySem.Challenge.rw_dealtsums_k21_whole_gaps_and_windows_of).prog [41]) (H := K21.hookY) (ob := K21.ob) (M := 3000) (loose := K21.loose) (d := HandSHeadRun.topDef (OpenLaw.row PySem.Challenge.rw_dealtsums_k21_whole_gaps_and_windows_of).prog 41) (kwd := []) K21.ob_eq
    (by kernel_rfl) (fun s => by kernel_rfl) K21.run (by kernel_rfl) (by kernel_rfl) (by kernel_rfl) (by rfl) (by first | assumption | decide +kernel) (by decide +kernel) ⟨rfl, rfl, rfl, rfl, rfl, by decide +kernel⟩ ?hw ?hc
  case hw => w_witness2
  case hc =>
    refine LamX.walk_ofTsE (l := PySem.Challenge.rw_dealtsums_k21_whole_gaps_and_windows_of) (n := 63) (k := 10) (x := "_law_script") (CX := fun _ => C8.CX0) rfl (by decide) (by kernel_rfl) ⟨rfl, by decide, by decide⟩ ?F (fun _ _ _ _ _ z => z)
    intro w mg fa h Y G hmg0
    have hmg : mg ("law" : PySem.Str) = some (.ref fa) := by
      have e : (HandSHeadRun.topDef (OpenLaw.row PySem.Challenge.rw_dealtsums_k21_whole_gaps_and_windows_of).prog 41).name = ("law" : PySem.Str) := by kernel_rfl
      rw [← e]
      exact hmg0
    exact K21.law_at G hmg Y
